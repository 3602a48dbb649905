import PyProof.Rows.All
import Wide.All
import OpenK.AllK
import Wide.FinOn
import HandS.ForMost
import HandS.Exc
import HandS.TryOnly
import HandS.ExcOwn
import HandS.WordsExc
import HandS.IsInst
import HandS.Wide
import HandS.Style
import HandS.TupAny
import HandS.Text
import HandS.Walk
import HandS.Zip
import HandS.SortInts
import HandS.TupSets
import HandS.Deep
import HandS.Conv
import KE.KTupSum
import HandS.EndBits
import HandS.ExcIs
import HandS.HotCalls
import KE.KRevSl
import HandS.SetFor
import HandS.Strs
import HandS.WordsDict
import HandS.Dict
import KE.KCallOwn
import OpenK.KOps
import OpenK.KWalk
import HandS.Iter
import HandS.RaiseMore
import PySem.Challenge.RW_oneparts_k13_whole_from_text_to_cutter
set_option Elab.async false
set_option linter.all false
set_option maxRecDepth 100000
set_option maxHeartbeats 4000000
/-! Ev1: data, environments, representation, the state relation. -/
namespace Ev
open PySem L2

/-- data; raw: a value as it is (the script, a def, a class); town, cut: objects that calls may change -/
inductive D where
  | non | bl (b : Bool) | int (i : Int) | str (x : Str) | tup (ds : List D) | lst (ds : List D) | raw (v : V) | ftp (ds : List D)
  | scr (K : PySem.W.Frag) (ns : List Int)
  | town (k : Nat) | cut (a b : Int) (gone : List Int) (kept : Int) | dct (ks : List Int)

abbrev En := List (Option D)
inductive Out (α : Type) where
  | ok (a : α) (e : En) | raise (c : Nat) (e : En) | stuck
def Out.bind {α β : Type} (o : Out α) (k : α → En → Out β) : Out β :=
  match o with
  | .ok a e => k a e
  | .raise c e => .raise c e
  | .stuck => .stuck
@[simp] theorem bind_ok {α β : Type} (a : α) (e : En) (k : α → En → Out β) : (Out.ok a e).bind k = k a e := rfl
@[simp] theorem bind_raise {α β : Type} (c : Nat) (e : En) (k : α → En → Out β) : (Out.raise c e).bind k = .raise c e := rfl
@[simp] theorem bind_stuck {α β : Type} (k : α → En → Out β) : (Out.stuck : Out α).bind k = .stuck := rfl

/-! ### representation -/
/-- a thing that no one changes -/
def Fz : HO → Prop
  | .tup _ => True
  | .frz _ _ => True
  | _ => False
abbrev FzO := { u : HO // Fz u }
theorem fz_not : ∀ (u : FzO), Mut (some u.1) → False
  | ⟨.tup _, _⟩, m => m
  | ⟨.frz _ _, _⟩, m => m
/-- a list known beforehand -/
def KL (K : PySem.W.Frag) (a : Addr) (xs : List V) : Prop := ∃ (o : Obj) (its : Array Value) (n : Nat), K.lookup a = some o ∧ o.cls = .type "list" ∧ o.dict = none ∧ o.data = .seq its n ∧ its.size ≤ sizeLine ∧ Vals xs its.toList
mutual
def Rep (H : Hp) (L : Addr → Prop) : D → V → Prop
  | .non, v => v = .non
  | .bl b, v => v = .bl b
  | .int i, v => v = .int i
  | .str x, v => v = .str x
  | .raw u, v => v = u
  | .scr K ns, v => ∃ a, v = .ref a ∧ ((∃ o, H a = some (.frz o (.lst (ns.map V.int)))) ∨ KL K a (ns.map V.int))
  | .tup ds, v => ∃ a xs, v = .ref a ∧ Rd H a (.tup xs) ∧ Reps H L ds xs
  | .ftp ds, v => ∃ a xs o, v = .ref a ∧ H a = some (.frz o (.tup xs)) ∧ o.dict = none ∧ Reps H L ds xs
  | .lst ds, v => ∃ a xs, v = .ref a ∧ H a = some (.lst xs) ∧ L a ∧ Reps H L ds xs
  | .town _, _ => False
  | .cut _ _ _ _, _ => False
  | .dct _, _ => False
def Reps (H : Hp) (L : Addr → Prop) : List D → List V → Prop
  | [], xs => xs = []
  | d :: ds, xs => ∃ x r, xs = x :: r ∧ Rep H L d x ∧ Reps H L ds r
end

theorem Rd.go {H H' : Hp} (ht : ∀ a (u : FzO), H a = some u.1 → H' a = some u.1) {a : Addr} {xs : List V} (h : Rd H a (.tup xs)) : Rd H' a (.tup xs) :=
  h.imp (fun h => ht _ ⟨.tup xs, trivial⟩ h) fun ⟨o, h⟩ => ⟨o, ht _ ⟨.frz o (.tup xs), trivial⟩ h⟩
theorem SqT.rd {K : PySem.W.Frag} {H : Hp} {a : Addr} {xs : List V} (h : Rd H a (.tup xs)) : SqT K H a xs := Or.inl h
theorem Rd.keep {H H' : Hp} (k : ∀ b o, H b = some o → H' b = some o) {a : Addr} {xs : List V} (h : Rd H a (.tup xs)) : Rd H' a (.tup xs) :=
  h.imp (fun h => k _ _ h) fun ⟨o, h⟩ => ⟨o, k _ _ h⟩
mutual
theorem Rep.imp {H H' : Hp} {L L' : Addr → Prop} (ht : ∀ a (u : FzO), H a = some u.1 → H' a = some u.1) (hl : ∀ a xs, H a = some (.lst xs) → L a → H' a = some (.lst xs) ∧ L' a) :
    ∀ {d : D} {v : V}, Rep H L d v → Rep H' L' d v
  | .non, _, h => h
  | .bl _, _, h => h
  | .int _, _, h => h
  | .str _, _, h => h
  | .raw _, _, h => h
  | .scr _ _, _, h => by
    obtain ⟨a, e, h1⟩ := h
    exact ⟨a, e, h1.imp (fun ⟨o, h1⟩ => ⟨o, ht _ ⟨.frz o _, trivial⟩ h1⟩) id⟩
  | .tup ds, v, h => by
    obtain ⟨a, xs, e, h1, h2⟩ := h
    exact ⟨a, xs, e, Rd.go ht h1, Reps.imp ht hl h2⟩
  | .ftp ds, v, h => by
    obtain ⟨a, xs, o, e, h1, hd, h2⟩ := h
    exact ⟨a, xs, o, e, ht _ ⟨.frz o _, trivial⟩ h1, hd, Reps.imp ht hl h2⟩
  | .lst ds, v, h => by
    obtain ⟨a, xs, e, h1, h2, h3⟩ := h
    obtain ⟨q1, q2⟩ := hl _ _ h1 h2
    exact ⟨a, xs, e, q1, q2, Reps.imp ht hl h3⟩
  | .town _, _, h => h
  | .cut _ _ _ _, _, h => h
  | .dct _, _, h => h
theorem Reps.imp {H H' : Hp} {L L' : Addr → Prop} (ht : ∀ a (u : FzO), H a = some u.1 → H' a = some u.1) (hl : ∀ a xs, H a = some (.lst xs) → L a → H' a = some (.lst xs) ∧ L' a) :
    ∀ {ds : List D} {vs : List V}, Reps H L ds vs → Reps H' L' ds vs
  | [], _, h => h
  | d :: ds, vs, h => by
    obtain ⟨x, r, e, h1, h2⟩ := h
    exact ⟨x, r, e, Rep.imp ht hl h1, Reps.imp ht hl h2⟩
end

mutual
/-- no list (and no object) within -/
@[simp] def lfree : D → Bool
  | .tup ds => lfrees ds
  | .ftp ds => lfrees ds
  | .lst _ => false
  | .town _ => false
  | .cut _ _ _ _ => false
  | .dct _ => false
  | _ => true
@[simp] def lfrees : List D → Bool
  | [] => true
  | d :: ds => lfree d && lfrees ds
end
mutual
theorem Rep.lf {H : Hp} {L L' : Addr → Prop} : ∀ {d : D} {v : V}, lfree d = true → Rep H L d v → Rep H L' d v
  | .non, _, _, h => h
  | .bl _, _, _, h => h
  | .int _, _, _, h => h
  | .str _, _, _, h => h
  | .raw _, _, _, h => h
  | .scr _ _, _, _, h => h
  | .tup ds, v, f, h => by
    obtain ⟨a, xs, e, h1, h2⟩ := h
    exact ⟨a, xs, e, h1, Reps.lf (by simpa [lfree] using f) h2⟩
  | .ftp ds, v, f, h => by
    obtain ⟨a, xs, o, e, h1, hd, h2⟩ := h
    exact ⟨a, xs, o, e, h1, hd, Reps.lf (by simpa [lfree] using f) h2⟩
  | .lst ds, v, f, h => by simp [lfree] at f
  | .town _, _, _, h => h
  | .cut _ _ _ _, _, _, h => h
  | .dct _, _, _, h => h
theorem Reps.lf {H : Hp} {L L' : Addr → Prop} : ∀ {ds : List D} {vs : List V}, lfrees ds = true → Reps H L ds vs → Reps H L' ds vs
  | [], _, _, h => h
  | d :: ds, vs, f, h => by
    obtain ⟨x, r, e, h1, h2⟩ := h
    have f' : lfree d = true ∧ lfrees ds = true := by simpa [lfrees] using f
    exact ⟨x, r, e, Rep.lf f'.1 h1, Reps.lf f'.2 h2⟩
end

section
variable {H : Hp} {L : Addr → Prop}
theorem Reps.length : ∀ {ds : List D} {vs : List V}, Reps H L ds vs → vs.length = ds.length
  | [], _, h => by cases (show _ = [] from h); rfl
  | d :: ds, vs, h => by
    obtain ⟨x, r, rfl, h1, h2⟩ := h
    simp [Reps.length h2]
theorem Reps.append : ∀ {ds es : List D} {vs us : List V}, Reps H L ds vs → Reps H L es us → Reps H L (ds ++ es) (vs ++ us)
  | [], es, _, us, h, g => by cases (show _ = [] from h); simpa using g
  | d :: ds, es, vs, us, h, g => by
    obtain ⟨x, r, rfl, h1, h2⟩ := h
    exact ⟨x, r ++ us, rfl, h1, Reps.append h2 g⟩
theorem Reps.one {d : D} {v : V} (h : Rep H L d v) : Reps H L [d] [v] := ⟨v, [], rfl, h, rfl⟩
theorem Reps.nil : Reps H L [] [] := rfl
theorem Reps.cons {d : D} {v : V} {ds : List D} {vs : List V} (h : Rep H L d v) (g : Reps H L ds vs) : Reps H L (d :: ds) (v :: vs) := ⟨v, vs, rfl, h, g⟩
theorem Reps.get : ∀ {ds : List D} {vs : List V} {i : Nat} {d : D}, Reps H L ds vs → ds[i]? = some d → ∃ v, vs[i]? = some v ∧ Rep H L d v
  | [], _, i, d, _, e => by simp at e
  | d :: ds, vs, 0, d', h, e => by
    obtain ⟨x, r, rfl, h1, h2⟩ := h
    simp at e; subst e
    exact ⟨x, rfl, h1⟩
  | d :: ds, vs, i + 1, d', h, e => by
    obtain ⟨x, r, rfl, h1, h2⟩ := h
    obtain ⟨v, q, z⟩ := Reps.get (i := i) h2 (by simpa using e)
    exact ⟨v, by simpa using q, z⟩
theorem Reps.get' : ∀ {ds : List D} {vs : List V} {i : Nat} {v : V}, Reps H L ds vs → vs[i]? = some v → ∃ d, ds[i]? = some d ∧ Rep H L d v
  | [], _, i, v, h, e => by cases (show _ = [] from h); simp at e
  | d :: ds, vs, 0, v', h, e => by
    obtain ⟨x, r, rfl, h1, h2⟩ := h
    simp at e; subst e
    exact ⟨d, rfl, h1⟩
  | d :: ds, vs, i + 1, v', h, e => by
    obtain ⟨x, r, rfl, h1, h2⟩ := h
    obtain ⟨d', q, z⟩ := Reps.get' (i := i) h2 (by simpa using e)
    exact ⟨d', by simpa using q, z⟩
theorem Reps.take : ∀ {ds : List D} {vs : List V} (n : Nat), Reps H L ds vs → Reps H L (ds.take n) (vs.take n)
  | _, _, 0, _ => by rw [List.take_zero, List.take_zero]; exact Reps.nil
  | [], _, n + 1, h => by cases (show _ = [] from h); exact rfl
  | d :: ds, vs, n + 1, h => by
    obtain ⟨x, r, rfl, h1, h2⟩ := h
    exact ⟨x, r.take n, rfl, h1, Reps.take n h2⟩
theorem Reps.drop : ∀ {ds : List D} {vs : List V} (n : Nat), Reps H L ds vs → Reps H L (ds.drop n) (vs.drop n)
  | _, _, 0, h => h
  | [], _, n + 1, h => by cases (show _ = [] from h); exact rfl
  | d :: ds, vs, n + 1, h => by
    obtain ⟨x, r, rfl, h1, h2⟩ := h
    exact Reps.drop n h2
theorem Reps.set : ∀ {ds : List D} {vs : List V} (i : Nat) {d : D} {v : V}, Reps H L ds vs → Rep H L d v → Reps H L (ds.set i d) (vs.set i v)
  | [], _, i, _, _, h, _ => by cases (show _ = [] from h); exact rfl
  | d :: ds, vs, 0, d', v', h, g => by
    obtain ⟨x, r, rfl, h1, h2⟩ := h
    exact ⟨v', r, rfl, g, h2⟩
  | d :: ds, vs, i + 1, d', v', h, g => by
    obtain ⟨x, r, rfl, h1, h2⟩ := h
    exact ⟨x, r.set i v', rfl, h1, Reps.set i h2 g⟩
theorem Reps.reverse : ∀ {ds : List D} {vs : List V}, Reps H L ds vs → Reps H L ds.reverse vs.reverse
  | [], _, h => by cases (show _ = [] from h); exact rfl
  | d :: ds, vs, h => by
    obtain ⟨x, r, rfl, h1, h2⟩ := h
    rw [List.reverse_cons, List.reverse_cons]
    exact Reps.append (Reps.reverse h2) (Reps.one h1)
theorem Reps.of_get : ∀ {ds : List D} {vs : List V}, vs.length = ds.length → (∀ (i : Nat) d v, ds[i]? = some d → vs[i]? = some v → Rep H L d v) → Reps H L ds vs
  | [], vs, hl, _ => List.eq_nil_of_length_eq_zero hl
  | d :: ds, [], hl, _ => by simp at hl
  | d :: ds, v :: vs, hl, h => ⟨v, vs, rfl, h 0 d v rfl rfl, Reps.of_get (by simpa using hl) fun i d' v' a b => h (i + 1) d' v' (by simpa using a) (by simpa using b)⟩
theorem Reps.ints : ∀ {ns : List Int} {vs : List V}, Reps H L (ns.map D.int) vs → vs = ns.map V.int
  | [], _, h => h
  | n :: ns, vs, h => by
    obtain ⟨x, r, rfl, h1, h2⟩ := h
    cases (show x = V.int n from h1)
    rw [Reps.ints h2]; rfl
theorem Reps.of_ints : ∀ (ns : List Int), Reps H L (ns.map D.int) (ns.map V.int)
  | [] => rfl
  | n :: ns => ⟨_, _, rfl, rfl, Reps.of_ints ns⟩
theorem Reps.bools : ∀ {ns : List Bool} {vs : List V}, Reps H L (ns.map D.bl) vs → vs = ns.map V.bl
  | [], _, h => h
  | n :: ns, vs, h => by
    obtain ⟨x, r, rfl, h1, h2⟩ := h
    cases (show x = V.bl n from h1)
    rw [Reps.bools h2]; rfl
end

/-! ### the state -/
/-- what is known of a def, statically: M its own lists that it changes, X the objects that calls may change; exc: the class of the c-th exception, C the class of the objects -/
structure Cy where
  M : List Nat
  X : List Nat
  exc : Nat → Addr
  C : Addr
  /-- slots that stand still for a while -/
  P : List Nat := []

abbrev Fp := Nat → List Addr
/-- not of any slot's own -/
def La (F : Fp) : Addr → Prop := fun a => ∀ i, a ∉ F i
def Lx (Γ : Cy) (F : Fp) : Addr → Prop := fun a => ∀ i ∈ Γ.X, a ∉ F i
def Lf (H : Hp) (F : Fp) : Addr → Prop := fun a => H a = none ∧ ∀ i, a ∉ F i
/-- how new a result is: borrowed; a list of the def's own, its items no one's; no one's; its outer list new; all its lists new -/
inductive Fk where
  | bor | mv | var | out | all
  deriving DecidableEq
def RepK (Γ : Cy) (k : Fk) (H : Hp) (F : Fp) (H' : Hp) (d : D) (v : V) : Prop := match k with
  | .all => Rep H' (Lf H F) d v
  | .var => Rep H' (La F) d v
  | .bor => Rep H' (Lx Γ F) d v
  | .out => match d with
    | .lst ds => ∃ a xs, v = .ref a ∧ H' a = some (.lst xs) ∧ Lf H F a ∧ Reps H' (Lx Γ F) ds xs
    | d => Rep H' (Lx Γ F) d v
  | .mv => match d with
    | .lst ds => ∃ a xs, v = .ref a ∧ H' a = some (.lst xs) ∧ Lx Γ F a ∧ Reps H' (La F) ds xs
    | d => Rep H' (La F) d v
/-- it may be stored -/
@[simp] def okK (k : Fk) (d : D) : Bool := match k with
  | .all => true
  | .out => match d with
    | .lst ds => lfrees ds
    | d => lfree d
  | _ => lfree d

/-- an object that calls may change; C its class -/
def XOk (C : Addr) (H : Hp) (fp : List Addr) : D → V → Prop
  | .town k, v => ∃ a, v = .ref a ∧ fp = [a] ∧ H a = some (.lst (List.replicate k (.int 0)))
  | .dct ks, v => ∃ a, v = .ref a ∧ fp = [a] ∧ H a = some (.dK (ks.map fun k => (Sum.inl k, V.bl true)))
  | .cut a b gone kept, v => ∃ p dx l t, v = .ref p ∧ fp = [p, l] ∧ p ≠ l ∧ dx ≠ p ∧ dx ≠ l ∧ H dx = some (.own p) ∧
      H p = some (.ins C dx [("fraction", .ref t), ("gone", .ref l), ("kept", .int kept)]) ∧ Rd H t (.tup [.int a, .int b]) ∧ H l = some (.lst (gone.map V.int))
  | _, _ => False

def SlotOk (Γ : Cy) (F : Fp) (H : Hp) (i : Nat) (d : D) (v : V) : Prop :=
  if i ∈ Γ.X then XOk Γ.C H (F i) d v
  else if i ∈ Γ.M then ∃ ds a xs, d = .lst ds ∧ v = .ref a ∧ F i = [a] ∧ H a = some (.lst xs) ∧ Reps H (La F) ds xs
  else Rep H (La F) d v

/-- a def's entry: its heap, the places that it may change, the slots of its objects -/
structure Base where
  H : Hp
  W : Addr → Prop
  xv : List (Nat × V)
  /-- the heap at the def's own entry -/
  E : Hp
/-- the state of a def's body: B its entry, F whose addresses are a slot's own -/
structure StOk (Γ : Cy) (B : Base) (F : Fp) (σ : St) (H : Hp) (env : En) : Prop where
  len : σ.length = env.length
  dom : ∀ b, B.H b ≠ none → H b ≠ none
  keep : ∀ b o, B.H b = some o → (Mut (some o) → ¬ B.W b) → H b = some o
  slot : ∀ i d, env[i]? = some (some d) → ∃ v, σ[i]? = some (some v) ∧ SlotOk Γ F H i d v
  disj : ∀ i j b, i ≠ j → b ∈ F i → b ∉ F j
  orig : ∀ i b, b ∈ F i → B.W b ∨ B.H b = none
  trk : ∀ i b, b ∈ F i → ∃ o, H b = some o ∧ Mut (some o)
  xval : ∀ p ∈ B.xv, (p.1 ∈ Γ.X ∨ p.1 ∈ Γ.P) ∧ σ[p.1]? = some (some p.2)
  xdef : ∀ p ∈ B.xv, p.1 ∈ Γ.X → ∃ d, env[p.1]? = some (some d)
  entD : ∀ b, B.E b ≠ none → H b ≠ none
  entF : ∀ i, i ∉ Γ.X → ∀ b ∈ F i, B.E b = none
  xvx : ∀ p ∈ B.xv, p.1 ∈ Γ.X
  /-- what these slots hold is newer than the entry -/
  newv : ∀ i ∈ Γ.P, ∀ a, σ[i]? = some (some (.ref a)) → B.E a = none

/-- from one heap to a later one, while an expression is evaluated -/
structure Go (Γ : Cy) (F : Fp) (H : Hp) (F' : Fp) (H' : Hp) : Prop where
  keep : ∀ b o, H b = some o → (Mut (some o) → ∀ i ∈ Γ.X, b ∉ F i) → H' b = some o
  dom : ∀ b, H b ≠ none → H' b ≠ none
  same : ∀ i, i ∉ Γ.X → F' i = F i
  grow : ∀ i ∈ Γ.X, ∀ b ∈ F' i, (∃ j ∈ Γ.X, b ∈ F j) ∨ H b = none
theorem Go.tups {Γ : Cy} {F F' : Fp} {H H' : Hp} (g : Go Γ F H F' H') : ∀ b (u : FzO), H b = some u.1 → H' b = some u.1 := fun b u h => g.keep b _ h fun m => (fz_not u m).elim
/-- not of an object's own, then not later either -/
theorem Go.out {Γ : Cy} {F F' : Fp} {H H' : Hp} (g : Go Γ F H F' H') {a : Addr} {o : HO} (e : H a = some o) (l : Lx Γ F a) : Lx Γ F' a := fun i hi hc => by
  rcases g.grow i hi a hc with ⟨j, hj, z⟩ | z
  · exact l j hj z
  · rw [e] at z; cases z
theorem Go.outA {Γ : Cy} {F F' : Fp} {H H' : Hp} (g : Go Γ F H F' H') {a : Addr} {o : HO} (e : H a = some o) (l : La F a) : La F' a := fun i hc => by
  by_cases hi : i ∈ Γ.X
  · exact g.out e (fun j _ => l j) i hi hc
  · rw [g.same i hi] at hc
    exact l i hc

section
variable {Γ : Cy} {F F1 F2 : Fp} {H H1 H2 : Hp}
theorem Go.refl : Go Γ F H F H := ⟨fun _ _ h _ => h, fun _ h => h, fun _ _ => rfl, fun i hi b h => .inl ⟨i, hi, h⟩⟩
theorem Go.trans (a : Go Γ F H F1 H1) (b : Go Γ F1 H1 F2 H2) : Go Γ F H F2 H2 where
  keep := fun c o h hx => b.keep c o (a.keep c o h hx) fun m => a.out h (hx m)
  dom := fun c h => b.dom c (a.dom c h)
  same := fun i hi => (b.same i hi).trans (a.same i hi)
  grow := fun i hi c hc => by
    rcases b.grow i hi c hc with ⟨j, hj, z⟩ | z
    · exact a.grow j hj c z
    · right
      cases q : H c with
      | none => rfl
      | some o => exact absurd z (a.dom c (by rw [q]; simp))
theorem Go.free (a : Go Γ F H F1 H1) {b : Addr} (h : H1 b = none) : H b = none := by
  cases q : H b with
  | none => rfl
  | some o => exact absurd h (a.dom b (by rw [q]; simp))
theorem Go.rep (g : Go Γ F H F1 H1) {d : D} {v : V} (r : Rep H (Lx Γ F) d v) : Rep H1 (Lx Γ F1) d v :=
  r.imp (fun a xs e => g.tups a xs e) fun a xs e l => ⟨g.keep a _ e fun _ => l, g.out e l⟩
theorem Go.repF {Hs : Hp} (g : Go Γ F H F1 H1) {d : D} {v : V} (r : Rep H (Lf Hs F) d v) : Rep H1 (Lf Hs F1) d v :=
  r.imp (fun a xs e => g.tups a xs e) fun a xs e l => ⟨g.keep a _ e (fun _ i _ => l.2 i), l.1, g.outA e l.2⟩
theorem Go.repsA (g : Go Γ F H F1 H1) {d : List D} {v : List V} (r : Reps H (La F) d v) : Reps H1 (La F1) d v :=
  r.imp (fun a xs e => g.tups a xs e) fun a xs e l => ⟨g.keep a _ e (fun _ i _ => l i), g.outA e l⟩
theorem Go.repA (g : Go Γ F H F1 H1) {d : D} {v : V} (r : Rep H (La F) d v) : Rep H1 (La F1) d v :=
  r.imp (fun a xs e => g.tups a xs e) fun a xs e l => ⟨g.keep a _ e (fun _ i _ => l i), g.outA e l⟩
theorem Lf.x {Hs : Hp} {a : Addr} (h : Lf Hs F a) : Lx Γ F a := fun i _ => h.2 i
theorem La.x {a : Addr} (h : La F a) : Lx Γ F a := fun i _ => h i
theorem RepK.x {k : Fk} {d : D} {v : V} (r : RepK Γ k H F H1 d v) : Rep H1 (Lx Γ F) d v := by
  cases k with
  | all => exact r.imp (fun _ _ h => h) fun _ _ h l => ⟨h, l.x⟩
  | var => exact r.imp (fun _ _ h => h) fun _ _ h l => ⟨h, l.x⟩
  | bor => exact r
  | out =>
    cases d with
    | lst ds =>
      obtain ⟨a, xs, e, h1, h2, h3⟩ := r
      exact ⟨a, xs, e, h1, h2.x, h3⟩
    | _ => exact r
  | mv =>
    cases d with
    | lst ds =>
      obtain ⟨a, xs, e, h1, h2, h3⟩ := r
      exact ⟨a, xs, e, h1, h2, h3.imp (fun _ _ h => h) fun _ _ h l => ⟨h, l.x⟩⟩
    | _ => exact Rep.imp (L := La F) (fun _ _ h => h) (fun _ _ h l => ⟨h, l.x⟩) r
theorem RepK.of_lf {k : Fk} {L : Addr → Prop} {d : D} {v : V} (f : lfree d = true) (r : Rep H1 L d v) : RepK Γ k H F H1 d v := by
  cases k with
  | all => exact r.lf f
  | var => exact r.lf f
  | bor => exact r.lf f
  | out =>
    cases d with
    | lst ds => simp [lfree] at f
    | _ => exact Rep.lf (L' := Lx Γ F) f r
  | mv =>
    cases d with
    | lst ds => simp [lfree] at f
    | _ => exact Rep.lf (L' := La F) f r
theorem RepK.ok {k : Fk} {d : D} {v : V} (h : okK k d = true) (r : RepK Γ k H F H1 d v) : Rep H1 (Lf H F) d v := by
  cases k with
  | all => exact r
  | var => exact r.lf h
  | bor => exact r.lf h
  | out =>
    cases d with
    | lst ds =>
      obtain ⟨a, xs, e, h1, h2, h3⟩ := r
      exact ⟨a, xs, e, h1, h2, h3.lf h⟩
    | _ => exact Rep.lf (L := Lx Γ F) h r
  | mv => exact Rep.lf (L := Lx Γ F) h r.x
theorem Go.repsX (g : Go Γ F H F1 H1) {d : List D} {v : List V} (r : Reps H (Lx Γ F) d v) : Reps H1 (Lx Γ F1) d v :=
  r.imp (fun a xs e => g.tups a xs e) fun a xs e l => ⟨g.keep a _ e fun _ => l, g.out e l⟩
theorem Go.lf {Hs : Hp} {a : Addr} {o : HO} (g : Go Γ F H F1 H1) (e : H a = some o) (l : Lf Hs F a) : Lf Hs F1 a := ⟨l.1, g.outA e l.2⟩
/-- a value carried on -/
theorem Go.repK {Hs : Hp} {k : Fk} (g : Go Γ F H F1 H1) {d : D} {v : V} (r : RepK Γ k Hs F H d v) : RepK Γ k Hs F1 H1 d v := by
  cases k with
  | all => exact g.repF r
  | var => exact g.repA r
  | bor => exact g.rep r
  | out =>
    cases d with
    | lst ds =>
      obtain ⟨a, xs, e, h1, h2, h3⟩ := r
      exact ⟨a, xs, e, g.keep a _ h1 (fun _ i _ => h2.2 i), g.lf h1 h2, g.repsX h3⟩
    | _ => exact g.rep r
  | mv =>
    cases d with
    | lst ds =>
      obtain ⟨a, xs, e, h1, h2, h3⟩ := r
      exact ⟨a, xs, e, g.keep a _ h1 fun _ => h2, g.out h1 h2, g.repsA h3⟩
    | _ => exact g.repA r
/-- the heap of a fresh result may be taken earlier -/
theorem RepK.early {Hs : Hp} {k : Fk} (g : Go Γ F H F1 Hs) {d : D} {v : V} (r : RepK Γ k Hs F2 H2 d v) : RepK Γ k H F2 H2 d v := by
  cases k with
  | all => exact r.imp (fun _ _ h => h) fun _ _ h l => ⟨h, g.free l.1, l.2⟩
  | var => exact r
  | bor => exact r
  | out =>
    cases d with
    | lst ds =>
      obtain ⟨a, xs, e, h1, h2, h3⟩ := r
      exact ⟨a, xs, e, h1, ⟨g.free h2.1, h2.2⟩, h3⟩
    | _ => exact r
  | mv => exact r
end

section
variable {Γ : Cy} {B : Base} {F : Fp} {σ : St} {H : Hp} {env : En}
theorem upd_dom {H : Hp} {p : Addr} {o : HO} {b : Addr} (h : H b ≠ none) : upd H p o b ≠ none := by
  unfold upd
  split
  · simp
  · exact h
theorem go_alloc {p : Addr} {o : HO} (hp : H p = none) : Go Γ F H F (upd H p o) where
  keep := fun b u h _ => by rw [upd_ne (ne_of_none h hp)]; exact h
  dom := fun b h => upd_dom h
  same := fun _ _ => rfl
  grow := fun i hi _ h => .inl ⟨i, hi, h⟩
theorem XOk.keep {C : Addr} {H H' : Hp} {fp : List Addr} {d : D} {v : V} (h : XOk C H fp d v) (k : ∀ b o, H b = some o → H' b = some o) : XOk C H' fp d v := by
  cases d with
  | town n => obtain ⟨a, e1, e2, e3⟩ := h; exact ⟨a, e1, e2, k _ _ e3⟩
  | dct n => obtain ⟨a, e1, e2, e3⟩ := h; exact ⟨a, e1, e2, k _ _ e3⟩
  | cut a b g n =>
    obtain ⟨p, dx, l, t, e1, e2, e3, e4, e5, e6, e7, e8, e9⟩ := h
    exact ⟨p, dx, l, t, e1, e2, e3, e4, e5, k _ _ e6, k _ _ e7, Rd.keep k e8, k _ _ e9⟩
  | _ => exact h
/-- all that was tracked is kept -/
theorem SlotOk.keep {F : Fp} {H' : Hp} {i : Nat} {d : D} {v : V} (h : SlotOk Γ F H i d v) (k : ∀ b o, H b = some o → H' b = some o) : SlotOk Γ F H' i d v := by
  unfold SlotOk at h ⊢
  split
  · rename_i hx
    rw [if_pos hx] at h
    exact h.keep k
  · rename_i hx
    rw [if_neg hx] at h
    split
    · rename_i hm
      rw [if_pos hm] at h
      obtain ⟨ds, a, xs, e1, e2, e3, e4, e5⟩ := h
      exact ⟨ds, a, xs, e1, e2, e3, k _ _ e4, e5.imp (fun b ys q => k _ _ q) fun b ys q l => ⟨k _ _ q, l⟩⟩
    · rename_i hm
      rw [if_neg hm] at h
      exact h.imp (fun b ys q => k _ _ q) fun b ys q l => ⟨k _ _ q, l⟩
theorem StOk.kept (ok : StOk Γ B F σ H env) {H' : Hp} (k : ∀ b o, H b = some o → H' b = some o) : StOk Γ B F σ H' env where
  len := ok.len
  dom := fun b h => by
    have q := ok.dom b h
    cases e : H b with
    | none => exact absurd e q
    | some o => rw [k b o e]; simp
  keep := fun b o h w => k b o (ok.keep b o h w)
  slot := fun i d e => by
    obtain ⟨v, h1, h2⟩ := ok.slot i d e
    exact ⟨v, h1, h2.keep k⟩
  disj := ok.disj
  orig := ok.orig
  trk := fun i b h => by
    obtain ⟨o, e, n⟩ := ok.trk i b h
    exact ⟨o, k b o e, n⟩
  xval := ok.xval
  xdef := ok.xdef
  entD := fun b h => by
    have q := ok.entD b h
    cases e : H b with
    | none => exact absurd e q
    | some o => rw [k b o e]; simp
  entF := ok.entF
  xvx := ok.xvx
  newv := ok.newv
theorem StOk.alloc (ok : StOk Γ B F σ H env) {p : Addr} {o : HO} (hp : H p = none) : StOk Γ B F σ (upd H p o) env :=
  ok.kept fun b u h => by rw [upd_ne (ne_of_none h hp)]; exact h
theorem StOk.notF (ok : StOk Γ B F σ H env) {p : Addr} (hp : H p = none) : ∀ i, p ∉ F i := fun i h => by
  obtain ⟨o, e, _⟩ := ok.trk i p h
  rw [hp] at e; cases e
end
end Ev

set_option Elab.async false
set_option linter.all false
set_option maxRecDepth 100000
set_option maxHeartbeats 4000000
/-! Ev2: judgements; names, constants, operators, tests. -/
namespace Ev
open PySem L2

/-- what must hold behind an outcome -/
def oE (Γ : Cy) (W : WX) (B : Base) (F : Fp) (σ : St) (H : Hp) {α : Type} (o : Out α) (K : α → En → Hp → Fp → Prop) : Prop := match o with
  | .ok a e' => ∀ H' F', StOk Γ B F' σ H' e' → Go Γ F H F' H' → K a e' H' F'
  | .raise c e' => ∀ H' F', StOk Γ B F' σ H' e' → Go Γ F H F' H' → W (.ref (Γ.exc c)) none σ H'
  | .stuck => False
section
variable {Γ : Cy} {W : WX} {B : Base} {F : Fp} {σ : St} {H : Hp} {α β : Type}
theorem oE.imp {o : Out α} {K K' : α → En → Hp → Fp → Prop} (h : oE Γ W B F σ H o K) (f : ∀ a e' H' F', StOk Γ B F' σ H' e' → Go Γ F H F' H' → K a e' H' F' → K' a e' H' F') : oE Γ W B F σ H o K' := by
  cases o with
  | ok a e => exact fun H' F' s g => f a e H' F' s g (h H' F' s g)
  | raise c e => exact h
  | stuck => exact h
theorem oE.bind {o : Out α} {k : α → En → Out β} {K : β → En → Hp → Fp → Prop} (h : oE Γ W B F σ H (o.bind k) K) :
    oE Γ W B F σ H o fun a e1 H1 F1 => StOk Γ B F1 σ H1 e1 ∧ Go Γ F H F1 H1 ∧ oE Γ W B F1 σ H1 (k a e1) fun b e2 H2 F2 => K b e2 H2 F2 := by
  cases o with
  | ok a e =>
    intro H1 F1 s1 g1
    refine ⟨s1, g1, ?_⟩
    have h' : oE Γ W B F σ H (k a e) K := h
    cases q : k a e with
    | ok b e2 =>
      rw [q] at h'
      exact fun H2 F2 s2 g2 => h' H2 F2 s2 (g1.trans g2)
    | raise c e2 =>
      rw [q] at h'
      exact fun H2 F2 s2 g2 => h' H2 F2 s2 (g1.trans g2)
    | stuck => rw [q] at h'; exact h'
  | raise c e => exact h
  | stuck => exact h
theorem oE.here {a : α} {e : En} {K : α → En → Hp → Fp → Prop} (h : oE Γ W B F σ H (.ok a e) K) (s : StOk Γ B F σ H e) : K a e H F := h H F s Go.refl
end

/-- an expression's reading by its outcome -/
def tE (Γ : Cy) (W : WX) (k : Fk) (f : En → Out D) : TE := fun σ H Q => ∃ B F env, StOk Γ B F σ H env ∧
  oE Γ W B F σ H (f env) fun d _ H' F' => ∀ v, RepK Γ k H F' H' d v → Q v H'
def tT (Γ : Cy) (W : WX) (f : En → Out Bool) : TT := fun σ H Q => ∃ B F env, StOk Γ B F σ H env ∧
  oE Γ W B F σ H (f env) fun b _ H' F' => Q b H'
structure GE (X : Cx) (Γ : Cy) (W : WX) (e : Expr) (k : Fk) (f : En → Out D) : Prop where
  pe : PE X e (tE Γ W k f)
structure GT (X : Cx) (Γ : Cy) (W : WX) (e : Expr) (f : En → Out Bool) : Prop where
  pt : PT X e (tT Γ W f)

theorem PE.weak {X : Cx} {e : Expr} {t t' : TE} (h : PE X e t) (w : ∀ σ H Q, t' σ H Q → t σ H Q) : PE X e t' := ⟨fun pins s σ H Q I q => h.run pins s σ H Q I (w σ H Q q)⟩
theorem PT.weak {X : Cx} {e : Expr} {t t' : TT} (h : PT X e t) (w : ∀ σ H Q, t' σ H Q → t σ H Q) : PT X e t' := ⟨fun pins s σ H Q I q => h.run pins s σ H Q I (w σ H Q q)⟩

section
variable {X : Cx} {Γ : Cy} {W : WX} {pos : Pos}
/-! ### names, constants -/
@[simp] def sVar (i : Nat) : En → Out D := fun e => match e[i]? with
  | some (some d) => .ok d e
  | _ => .stuck
theorem SlotOk.repM {F : Fp} {H Hs : Hp} {i : Nat} {d : D} {v : V} (hx : i ∉ Γ.X) (hm : i ∈ Γ.M) (dj : ∀ i j b, i ≠ j → b ∈ F i → b ∉ F j) (h : SlotOk Γ F H i d v) : RepK Γ .mv Hs F H d v := by
  unfold SlotOk at h
  rw [if_neg hx, if_pos hm] at h
  obtain ⟨ds, a, xs, e1, e2, e3, e4, e5⟩ := h
  subst e1 e2
  refine ⟨a, xs, rfl, e4, fun j hj => dj i j a ?_ (by rw [e3]; simp), e5⟩
  rintro rfl
  exact hx hj
/-- a name whose value is no one's -/
theorem ge_var {x : Str} (i : Nat) (hx : i ∉ Γ.X := by (try dsimp only); decide) (hm : i ∉ Γ.M := by (try dsimp only); decide) (hN : X.N[i]? = some x := by rfl) (hv : Vis X.env.scope x := by first | exact Or.inl rfl | exact Or.inr (Or.inl rfl) | exact Or.inr (Or.inr rfl)) (hd : (x == ("__debug__" : Str)) = false := by decide)
    (hcd : (x == ("__classdict__" : Str)) = false := by decide) : GE X Γ W (.Name x pos) .var (sVar i) := by
  refine ⟨PE.weak (pe_var hN hv hd hcd) ?_⟩
  rintro σ H Q ⟨B, F, env, ok, h⟩
  unfold sVar at h
  split at h
  · rename_i d e
    obtain ⟨v, e1, s⟩ := ok.slot i d e
    refine ⟨v, e1, h.here ok v ?_⟩
    unfold SlotOk at s
    rw [if_neg hx, if_neg hm] at s
    exact s
  · exact h.elim
/-- a name whose value is a list of the def's own -/
theorem ge_varM {x : Str} (i : Nat) (hx : i ∉ Γ.X := by (try dsimp only); decide) (hm : i ∈ Γ.M := by (try dsimp only); decide) (hN : X.N[i]? = some x := by rfl) (hv : Vis X.env.scope x := by first | exact Or.inl rfl | exact Or.inr (Or.inl rfl) | exact Or.inr (Or.inr rfl)) (hd : (x == ("__debug__" : Str)) = false := by decide)
    (hcd : (x == ("__classdict__" : Str)) = false := by decide) : GE X Γ W (.Name x pos) .mv (sVar i) := by
  refine ⟨PE.weak (pe_var hN hv hd hcd) ?_⟩
  rintro σ H Q ⟨B, F, env, ok, h⟩
  unfold sVar at h
  split at h
  · rename_i d e
    obtain ⟨v, e1, s⟩ := ok.slot i d e
    exact ⟨v, e1, h.here ok v (s.repM hx hm ok.disj)⟩
  · exact h.elim
@[simp] def sC (d : D) : En → Out D := fun e => .ok d e
theorem ge_int {i j} : GE X Γ W (.Constant (.int i) j pos) .all (sC (.int i)) := ⟨PE.weak pe_int fun _ _ _ ⟨_, _, _, ok, h⟩ => h.here ok _ rfl⟩
theorem ge_bl {b j} : GE X Γ W (.Constant (.bool b) j pos) .all (sC (.bl b)) := ⟨PE.weak pe_bl fun _ _ _ ⟨_, _, _, ok, h⟩ => h.here ok _ rfl⟩
theorem ge_non {j} : GE X Γ W (.Constant .none j pos) .all (sC .non) := ⟨PE.weak pe_non fun _ _ _ ⟨_, _, _, ok, h⟩ => h.here ok _ rfl⟩
theorem ge_str {x j} : GE X Γ W (.Constant (.str x) j pos) .all (sC (.str x)) := ⟨PE.weak pe_str fun _ _ _ ⟨_, _, _, ok, h⟩ => h.here ok _ rfl⟩
/-- a module's constant, a class, a def, as a value -/
theorem ge_glob {x : Str} {u : Value} {v : V} (d : D) (hm : X.mg x = some u) (r : RelV v u) (hd : ∀ H L, Rep H L d v) (hg : Gl X x := by rfl) (hdb : (x == ("__debug__" : Str)) = false := by decide) : GE X Γ W (.Name x pos) .all (sC d) :=
  ⟨PE.weak (pe_glob hg hm r hdb) fun _ _ _ ⟨_, _, _, ok, h⟩ => h.here ok _ (hd _ _)⟩

/-! ### operators with a scalar result -/
def vOf : D → V
  | .bl b => .bl b
  | .int i => .int i
  | .str x => .str x
  | .raw v => v
  | _ => .non
def isS : D → Bool
  | .non => true
  | .bl _ => true
  | .int _ => true
  | .str _ => true
  | .raw _ => true
  | _ => false
theorem rep_s {H : Hp} {L : Addr → Prop} {d : D} (h : isS d = true) : Rep H L d (vOf d) := by
  cases d <;> first | rfl | cases h
@[simp] def lift (o : Option D) (e : En) : Out D := match o with
  | some d => .ok d e
  | none => .stuck
@[simp] def s2 (op : D → D → Option D) (f g : En → Out D) : En → Out D := fun e => (f e).bind fun x e1 => (g e1).bind fun y e2 => lift (op x y) e2
@[simp] def s1 (op : D → Option D) (f : En → Out D) : En → Out D := fun e => (f e).bind fun x e1 => lift (op x) e1
theorem rep_of_s {H H' : Hp} {L L' : Addr → Prop} {d : D} {v : V} (h : isS d = true) (r : Rep H L d v) : Rep H' L' d v := by
  cases d <;> first | exact r | cases h
/-- the scheme of a binary rule: f, then g, then what the rule asks of both values -/
theorem bin_ok {fa fb : Fk} {f g : En → Out D} {α : Type} {k : D → D → En → Out α} {K : α → En → Hp → Fp → Prop} {B : Base} {F : Fp} {σ : St} {H : Hp} {env : En} {R : V → V → Hp → Prop} (ok : StOk Γ B F σ H env)
    (h : oE Γ W B F σ H ((f env).bind fun x e1 => (g e1).bind fun y e2 => k x y e2) K)
    (hR : ∀ x y e2 u v H2 F2, StOk Γ B F2 σ H2 e2 → Go Γ F H F2 H2 → RepK Γ fa H F2 H2 x u → RepK Γ fb H F2 H2 y v → oE Γ W B F2 σ H2 (k x y e2) K → R u v H2) :
    tE Γ W fa f σ H fun u H1 => tE Γ W fb g σ H1 fun v H2 => R u v H2 := by
  refine ⟨B, F, env, ok, oE.imp h.bind fun x e1 H1 F1 _ _ ⟨ok1, g1, h1⟩ u ru => ?_⟩
  refine ⟨B, F1, e1, ok1, oE.imp h1.bind fun y e2 H2 F2 _ _ ⟨ok2, g2, h2⟩ v rv => ?_⟩
  exact hR x y e2 u v H2 F2 ok2 (g1.trans g2) (g2.repK ru) (rv.early g1) h2
/-- what a rule by values asks, where the operation's outcome is known -/
def HOp (r : R2) (op : D → D → Option D) : Prop := ∀ x y d, op x y = some d → isS d = true ∧ ∀ (H : Hp) (L : Addr → Prop) (u v : V) (Q : VK), Rep H L x u → Rep H L y v → Q (vOf d) H → r u v H Q
theorem op_core {fa fb : Fk} {f g : En → Out D} {r : R2} {op : D → D → Option D} (hop : HOp r op) {σ : St} {H : Hp} {Q : VK} (h : tE Γ W .all (s2 op f g) σ H Q) : tOp r (tE Γ W fa f) (tE Γ W fb g) σ H Q := by
  obtain ⟨B, F, env, ok, h⟩ := h
  refine bin_ok ok h fun x y e2 u v H2 F2 ok2 g2 ru rv h2 => ?_
  cases q : op x y with
  | none => rw [q] at h2; exact h2.elim
  | some d =>
    rw [q] at h2
    obtain ⟨hs, hr⟩ := hop x y d q
    exact hr H2 (Lx Γ F2) u v Q ru.x rv.x (h2.here ok2 _ (rep_s hs))
theorem ge_op {a b ex : Expr} {fa fb : Fk} {f g : En → Out D} {r : R2} {op : D → D → Option D} (rule : ∀ {ta tb : TE}, PE X a ta → PE X b tb → PE X ex (tOp r ta tb)) (hop : HOp r op) (ha : GE X Γ W a fa f) (hb : GE X Γ W b fb g) : GE X Γ W ex .all (s2 op f g) :=
  ⟨PE.weak (rule ha.pe hb.pe) fun _ _ _ h => op_core hop h⟩
theorem ge_un {a ex : Expr} {fa : Fk} {f : En → Out D} {r : V → Hp → VK → Prop} {op : D → Option D} (rule : ∀ {ta : TE}, PE X a ta → PE X ex (tUn r ta)) (ha : GE X Γ W a fa f)
    (hop : ∀ x d, op x = some d → isS d = true ∧ ∀ (H : Hp) (L : Addr → Prop) (u : V) (Q : VK), Rep H L x u → Q (vOf d) H → r u H Q) : GE X Γ W ex .all (s1 op f) := by
  refine ⟨PE.weak (rule ha.pe) ?_⟩
  rintro σ H Q ⟨B, F, env, ok, h⟩
  refine ⟨B, F, env, ok, oE.imp (oE.bind h) fun x e1 H1 F1 _ _ ⟨ok1, g1, h1⟩ u ru => ?_⟩
  cases q : op x with
  | none => rw [q] at h1; exact h1.elim
  | some d =>
    rw [q] at h1
    obtain ⟨hs, hr⟩ := hop x d q
    exact hr H1 (Lx Γ F1) u Q ru.x (h1.here ok1 _ (rep_s hs))
end
end Ev

set_option Elab.async false
set_option linter.all false
set_option maxRecDepth 100000
set_option maxHeartbeats 4000000
/-! Ev3: ints, comparisons, data's ==, tests. -/
namespace Ev
open PySem L2

/-! ### data as the library's data -/
mutual
def py : D → PyData
  | .non => .none
  | .bl b => .bool b
  | .int i => .int i
  | .str x => .str x
  | .tup ds => .tuple (pys ds)
  | .lst ds => .list (pys ds)
  | _ => .none
def pys : List D → List PyData
  | [] => []
  | d :: ds => py d :: pys ds
end
mutual
/-- data of a depth below n -/
def shp : Nat → D → Bool
  | _, .non => true
  | _, .bl _ => true
  | _, .int _ => true
  | _, .str x => PyData.strOk x
  | n + 1, .tup ds => shps n ds
  | n + 1, .lst ds => shps n ds
  | _, _ => false
def shps : Nat → List D → Bool
  | _, [] => true
  | n, d :: ds => shp n d && shps n ds
end
mutual
theorem shp_ok : ∀ {n : Nat} {d : D}, shp n d = true → (py d).canLay0 = true ∧ (py d).depth ≤ n
  | n, .non, _ => ⟨by simp [py, PyData.canLay0], by simp [py, PyData.depth]⟩
  | n, .bl _, _ => ⟨by simp [py, PyData.canLay0], by simp [py, PyData.depth]⟩
  | n, .int _, _ => ⟨by simp [py, PyData.canLay0], by simp [py, PyData.depth]⟩
  | n, .str x, h => ⟨by simpa [py, PyData.canLay0, shp] using h, by simp [py, PyData.depth]⟩
  | 0, .tup ds, h => by simp [shp] at h
  | n + 1, .tup ds, h => by
    obtain ⟨a, b⟩ := shps_ok (n := n) (ds := ds) (by simpa [shp] using h)
    exact ⟨by simpa [py, PyData.canLay0] using a, by simp only [py, PyData.depth]; omega⟩
  | 0, .lst ds, h => by simp [shp] at h
  | n + 1, .lst ds, h => by
    obtain ⟨a, b⟩ := shps_ok (n := n) (ds := ds) (by simpa [shp] using h)
    exact ⟨by simpa [py, PyData.canLay0] using a, by simp only [py, PyData.depth]; omega⟩
  | n, .raw _, h => by cases n <;> simp [shp] at h
  | n, .scr _ _, h => by cases n <;> simp [shp] at h
  | n, .town _, h => by cases n <;> simp [shp] at h
  | n, .cut _ _ _ _, h => by cases n <;> simp [shp] at h
  | n, .dct _, h => by cases n <;> simp [shp] at h
theorem shps_ok : ∀ {n : Nat} {ds : List D}, shps n ds = true → PyData.canLayAll0 (pys ds) = true ∧ PyData.depthAll (pys ds) ≤ n
  | _, [], _ => ⟨by simp [pys, PyData.canLayAll0], by simp [pys, PyData.depthAll]⟩
  | n, d :: ds, h => by
    have h' : shp n d = true ∧ shps n ds = true := by simpa [shps] using h
    obtain ⟨a1, b1⟩ := shp_ok h'.1
    obtain ⟨a2, b2⟩ := shps_ok h'.2
    exact ⟨by simp [pys, PyData.canLayAll0, a1, a2], by simp only [pys, PyData.depthAll]; omega⟩
end
theorem shaped_of {d : D} (h : shp 9 d = true) : SeqAt.shaped (py d) = true := by
  obtain ⟨a, b⟩ := shp_ok h
  unfold SeqAt.shaped
  rw [a, Bool.true_and]
  exact decide_eq_true (by omega)
mutual
theorem Rep.dp {K : PySem.W.Frag} {H : Hp} {L : Addr → Prop} : ∀ {n : Nat} {d : D} {v : V}, shp n d = true → Rep H L d v → Dp K H v (py d)
  | _, .non, _, _, h => by cases (show _ = V.non from h); exact .non
  | _, .bl b, _, _, h => by cases (show _ = V.bl b from h); exact .bl b
  | _, .int i, _, _, h => by cases (show _ = V.int i from h); exact .int i
  | _, .str x, _, _, h => by cases (show _ = V.str x from h); exact .str x
  | 0, .tup ds, _, s, _ => by simp [shp] at s
  | n + 1, .tup ds, v, s, h => by
    obtain ⟨a, xs, rfl, h1, h2⟩ := h
    exact .tup (Or.inl h1) (Reps.dp (n := n) (by simpa [shp] using s) h2)
  | 0, .lst ds, _, s, _ => by simp [shp] at s
  | n + 1, .lst ds, v, s, h => by
    obtain ⟨a, xs, rfl, h1, _, h2⟩ := h
    exact .lst (SqL.of h1) (Reps.dp (n := n) (by simpa [shp] using s) h2)
  | n, .raw _, _, s, _ => by cases n <;> simp [shp] at s
  | n, .scr _ _, _, s, _ => by cases n <;> simp [shp] at s
  | n, .town _, _, s, _ => by cases n <;> simp [shp] at s
  | n, .cut _ _ _ _, _, s, _ => by cases n <;> simp [shp] at s
  | n, .dct _, _, s, _ => by cases n <;> simp [shp] at s
theorem Reps.dp {K : PySem.W.Frag} {H : Hp} {L : Addr → Prop} : ∀ {n : Nat} {ds : List D} {vs : List V}, shps n ds = true → Reps H L ds vs → DpAll K H vs (pys ds)
  | _, [], _, _, h => by cases (show _ = [] from h); exact .nil
  | n, d :: ds, vs, s, h => by
    obtain ⟨x, r, rfl, h1, h2⟩ := h
    have s' : shp n d = true ∧ shps n ds = true := by simpa [shps] using s
    exact .cons (Rep.dp s'.1 h1) (Reps.dp s'.2 h2)
end
def deq (d e : D) : Bool := PyData.eqv (py d) (py e)

/-! ### operators by data -/
@[simp] def oAdd : D → D → Option D
  | .int i, .int j => some (.int (i + j))
  | _, _ => none
@[simp] def oSub : D → D → Option D
  | .int i, .int j => some (.int (i - j))
  | _, _ => none
/-- * of two factors of together less than a hundred million bits -/
def CMulX (i j : Int) : Prop := i.natAbs.log2 + j.natAbs.log2 < 100000000
theorem CMulX.ok {i j : Int} (h : CMulX i j) : PySem.IntMulOk i j := by
  have b : ∀ x : Int, Builtin.Int.intBits x ≤ x.natAbs.log2 + 1 := fun x => by
    unfold Builtin.Int.intBits
    split <;> omega
  have h1 := b i
  have h2 := b j
  have h3 : i.natAbs.log2 + j.natAbs.log2 < 100000000 := h
  have e : bitsLine = 134217728 := by decide
  intro z
  rw [Bool.and_eq_true] at z
  have z3 := of_decide_eq_true z.2
  rw [e] at z3
  omega
theorem op_mulX {X : Cx} : OpR X (binaryOp .Mult) (rI CMulX fun i j => .int (i * j)) := opI fun _ _ _ _ _ _ _ hc q => PyProof.Rows.mul_int q hc.ok
def mulB (i j : Int) : Bool := decide (i.natAbs.log2 + j.natAbs.log2 < 100000000)
@[simp] def oMul : D → D → Option D
  | .int i, .int j => if mulB i j = true then some (.int (i * j)) else none
  | _, _ => none
def divB (j : Int) : Bool := decide (0 < j) && decide (j.natAbs.log2 < 9000)
@[simp] def oDiv : D → D → Option D
  | .int i, .int j => if divB j = true then some (.int (i / j)) else none
  | _, _ => none
@[simp] def oMod : D → D → Option D
  | .int i, .int j => if 0 < j then some (.int (i % j)) else none
  | _, _ => none
@[simp] def oPow : D → D → Option D
  | .int i, .int j => if 0 ≤ j ∧ j ≤ 1000 ∧ i.natAbs < 2 ^ 64 then some (.int (i ^ j.toNat)) else none
  | _, _ => none
@[simp] def oNeg : D → Option D
  | .int i => some (.int (-i))
  | _ => none
@[simp] def oLt : D → D → Option D
  | .int i, .int j => some (.bl (decide (i < j)))
  | _, _ => none
@[simp] def oLe : D → D → Option D
  | .int i, .int j => some (.bl (decide (i ≤ j)))
  | _, _ => none
@[simp] def oGt : D → D → Option D
  | .int i, .int j => some (.bl (decide (j < i)))
  | _, _ => none
@[simp] def oGe : D → D → Option D
  | .int i, .int j => some (.bl (decide (j ≤ i)))
  | _, _ => none
def oEq (x y : D) : Option D := if shp 9 x = true ∧ shp 9 y = true then some (.bl (deq x y)) else none
def oNe (x y : D) : Option D := if shp 9 x = true ∧ shp 9 y = true then some (.bl (!deq x y)) else none
@[simp] def isNon : D → Bool
  | .non => true
  | _ => false
/-- is None, is True, is False -/
@[simp] def oIs : D → D → Option D
  | x, .non => some (.bl (isNon x))
  | .bl a, .bl b => some (.bl (decide (a = b)))
  | _, _ => none
@[simp] def oIsN : D → D → Option D
  | x, .non => some (.bl (!isNon x))
  | .bl a, .bl b => some (.bl (!decide (a = b)))
  | _, _ => none

theorem hop_ii {C : Int → Int → Prop} {g : Int → Int → D} {gv : Int → Int → V} {op : D → D → Option D} (h : ∀ x y d, op x y = some d → ∃ i j, x = .int i ∧ y = .int j ∧ C i j ∧ d = g i j) (hs : ∀ i j, isS (g i j) = true ∧ vOf (g i j) = gv i j) : HOp (rI C gv) op := by
  intro x y d q
  obtain ⟨i, j, rfl, rfl, c, rfl⟩ := h x y d q
  refine ⟨(hs i j).1, fun H L u v Q ru rv k => ?_⟩
  rw [(hs i j).2] at k
  exact ⟨i, j, ru, rv, c, k⟩
theorem hop_i0 {g : Int → Int → D} {gv : Int → Int → V} {op : D → D → Option D} (h : ∀ x y d, op x y = some d → ∃ i j, x = .int i ∧ y = .int j ∧ d = g i j) (hs : ∀ i j, isS (g i j) = true ∧ vOf (g i j) = gv i j) : HOp (rI0 gv) op := by
  intro x y d q
  obtain ⟨i, j, rfl, rfl, rfl⟩ := h x y d q
  refine ⟨(hs i j).1, fun H L u v Q ru rv k => ?_⟩
  rw [(hs i j).2] at k
  exact ⟨i, j, ru, rv, k⟩
theorem hop_add : HOp (rI0 fun i j => .int (i + j)) oAdd := hop_i0 (g := fun i j => .int (i + j)) (fun x y d q => by cases x <;> cases y <;> simp [oAdd] at q; subst q; exact ⟨_, _, rfl, rfl, rfl⟩) fun _ _ => ⟨rfl, rfl⟩
theorem hop_sub : HOp (rI0 fun i j => .int (i - j)) oSub := hop_i0 (g := fun i j => .int (i - j)) (fun x y d q => by cases x <;> cases y <;> simp [oSub] at q; subst q; exact ⟨_, _, rfl, rfl, rfl⟩) fun _ _ => ⟨rfl, rfl⟩
theorem hop_lt : HOp (rI0 fun i j => .bl (decide (i < j))) oLt := hop_i0 (g := fun i j => .bl (decide (i < j))) (fun x y d q => by cases x <;> cases y <;> simp [oLt] at q; subst q; exact ⟨_, _, rfl, rfl, rfl⟩) fun _ _ => ⟨rfl, rfl⟩
theorem hop_le : HOp (rI0 fun i j => .bl (decide (i ≤ j))) oLe := hop_i0 (g := fun i j => .bl (decide (i ≤ j))) (fun x y d q => by cases x <;> cases y <;> simp [oLe] at q; subst q; exact ⟨_, _, rfl, rfl, rfl⟩) fun _ _ => ⟨rfl, rfl⟩
theorem hop_gt : HOp (rI0 fun i j => .bl (decide (j < i))) oGt := hop_i0 (g := fun i j => .bl (decide (j < i))) (fun x y d q => by cases x <;> cases y <;> simp [oGt] at q; subst q; exact ⟨_, _, rfl, rfl, rfl⟩) fun _ _ => ⟨rfl, rfl⟩
theorem hop_ge : HOp (rI0 fun i j => .bl (decide (j ≤ i))) oGe := hop_i0 (g := fun i j => .bl (decide (j ≤ i))) (fun x y d q => by cases x <;> cases y <;> simp [oGe] at q; subst q; exact ⟨_, _, rfl, rfl, rfl⟩) fun _ _ => ⟨rfl, rfl⟩
theorem hop_mul : HOp (rI CMulX fun i j => .int (i * j)) oMul := hop_ii (g := fun i j => .int (i * j)) (fun x y d q => by
  cases x <;> cases y <;> simp [oMul] at q
  obtain ⟨q1, q2⟩ := q
  exact ⟨_, _, rfl, rfl, (by unfold mulB at q1; unfold CMulX; exact of_decide_eq_true q1), q2.symm⟩) fun _ _ => ⟨rfl, rfl⟩
theorem hop_div : HOp (rI CDivW fun i j => .int (i / j)) oDiv := hop_ii (g := fun i j => .int (i / j)) (fun x y d q => by
  cases x <;> cases y <;> simp [oDiv] at q
  obtain ⟨q1, q2⟩ := q
  unfold divB at q1
  rw [Bool.and_eq_true] at q1
  exact ⟨_, _, rfl, rfl, ⟨of_decide_eq_true q1.1, of_decide_eq_true q1.2⟩, q2.symm⟩) fun _ _ => ⟨rfl, rfl⟩
theorem hop_mod : HOp (rI (fun _ j => 0 < j) fun i j => .int (i % j)) oMod := hop_ii (g := fun i j => .int (i % j)) (fun x y d q => by
  cases x <;> cases y <;> simp [oMod] at q
  exact ⟨_, _, rfl, rfl, q.1, q.2.symm⟩) fun _ _ => ⟨rfl, rfl⟩
theorem hop_pow : HOp (rI CPow fun i j => .int (i ^ j.toNat)) oPow := hop_ii (g := fun i j => .int (i ^ j.toNat)) (fun x y d q => by
  cases x <;> cases y <;> simp only [oPow] at q <;> first | cases q | skip
  split at q
  · rename_i h
    cases q
    exact ⟨_, _, rfl, rfl, ⟨h.1, by omega, h.2.2⟩, rfl⟩
  · cases q) fun _ _ => ⟨rfl, rfl⟩
theorem hop_eq {K : PySem.W.Frag} : HOp (rEqD K) oEq := fun x y d q => by
  unfold oEq at q
  split at q
  · rename_i h
    cases q
    exact ⟨rfl, fun H L u v Q ru rv k => ⟨_, _, ru.dp h.1, rv.dp h.2, shaped_of h.1, shaped_of h.2, k⟩⟩
  · cases q
theorem hop_ne {K : PySem.W.Frag} : HOp (rNeD K) oNe := fun x y d q => by
  unfold oNe at q
  split at q
  · rename_i h
    cases q
    exact ⟨rfl, fun H L u v Q ru rv k => ⟨_, _, ru.dp h.1, rv.dp h.2, shaped_of h.1, shaped_of h.2, k⟩⟩
  · cases q
theorem isNon_ok {H : Hp} {L : Addr → Prop} {x : D} {u : V} (h : Rep H L x u) (hr : ∀ v, x = .raw v → v ≠ .non) : decide (u = .non) = isNon x := by
  cases x with
  | non => cases (show u = _ from h); rfl
  | bl b => cases (show u = _ from h); rfl
  | int b => cases (show u = _ from h); rfl
  | str b => cases (show u = _ from h); rfl
  | raw v => cases (show u = _ from h); exact decide_eq_false (hr _ rfl)
  | tup ds => obtain ⟨a, xs, rfl, _⟩ := h; rfl
  | ftp ds => obtain ⟨a, xs, o, rfl, _⟩ := h; rfl
  | lst ds => obtain ⟨a, xs, rfl, _⟩ := h; rfl
  | scr _ _ => obtain ⟨a, rfl, _⟩ := h; rfl
  | town k => exact h.elim
  | cut a b g k => exact h.elim
  | dct k => exact h.elim
section
variable {X : Cx}
theorem OpR.isAll : OpR X (compareOp .Is) (fun x y H Q => (y = .non ∧ Q (.bl (decide (x = .non))) H) ∨ rIsB x y H Q) := op_isN.or op_isBl
theorem OpR.notAll : OpR X (compareOp .IsNot) (fun x y H Q => (y = .non ∧ Q (.bl (!decide (x = .non))) H) ∨ rNotB x y H Q) := op_notN.or op_notBl
end
@[simp] def rawOk : D → Bool
  | .raw _ => false
  | _ => true
theorem rawOk_ne {x : D} (h : rawOk x = true) : ∀ v, x = .raw v → v ≠ .non := fun v e => by subst e; cases h
/-- is None where no raw value stands left -/
@[simp] def oIs' (x y : D) : Option D := if rawOk x = true then oIs x y else none
@[simp] def oIsN' (x y : D) : Option D := if rawOk x = true then oIsN x y else none
theorem hop_is : HOp (fun x y H Q => (y = .non ∧ Q (.bl (decide (x = .non))) H) ∨ rIsB x y H Q) oIs' := fun x y d q => by
  unfold oIs' at q
  split at q
  · rename_i hw
    unfold oIs at q
    split at q
    · cases q
      exact ⟨rfl, fun H L u v Q ru rv k => .inl ⟨rv, by rw [isNon_ok ru (rawOk_ne hw)]; exact k⟩⟩
    · cases q
      exact ⟨rfl, fun H L u v Q ru rv k => .inr ⟨_, _, ru, rv, k⟩⟩
    · cases q
  · cases q
theorem hop_isN : HOp (fun x y H Q => (y = .non ∧ Q (.bl (!decide (x = .non))) H) ∨ rNotB x y H Q) oIsN' := fun x y d q => by
  unfold oIsN' at q
  split at q
  · rename_i hw
    unfold oIsN at q
    split at q
    · cases q
      exact ⟨rfl, fun H L u v Q ru rv k => .inl ⟨rv, by rw [isNon_ok ru (rawOk_ne hw)]; exact k⟩⟩
    · cases q
      exact ⟨rfl, fun H L u v Q ru rv k => .inr ⟨_, _, ru, rv, k⟩⟩
    · cases q
  · cases q

/-! ### the rules -/
section
variable {X : Cx} {Γ : Cy} {W : WX} {pos : Pos} {a b c : Expr} {fa fb fc : Fk} {f g k : En → Out D}
theorem ge_sub (ha : GE X Γ W a fa f) (hb : GE X Γ W b fb g) : GE X Γ W (.BinOp a .Sub b pos) .all (s2 oSub f g) := ge_op (fun p q => pe_op op_sub p q) hop_sub ha hb
theorem ge_addI (ha : GE X Γ W a fa f) (hb : GE X Γ W b fb g) : GE X Γ W (.BinOp a .Add b pos) .all (s2 oAdd f g) := ge_op (fun p q => pe_op op_add p q) hop_add ha hb
theorem ge_mulI (ha : GE X Γ W a fa f) (hb : GE X Γ W b fb g) : GE X Γ W (.BinOp a .Mult b pos) .all (s2 oMul f g) := ge_op (fun p q => pe_op op_mulX p q) hop_mul ha hb
theorem ge_div (ha : GE X Γ W a fa f) (hb : GE X Γ W b fb g) : GE X Γ W (.BinOp a .FloorDiv b pos) .all (s2 oDiv f g) := ge_op (fun p q => pe_op op_fdivW p q) hop_div ha hb
theorem ge_mod (ha : GE X Γ W a fa f) (hb : GE X Γ W b fb g) : GE X Γ W (.BinOp a .Mod b pos) .all (s2 oMod f g) := ge_op (fun p q => pe_op op_mod p q) hop_mod ha hb
theorem ge_pow (ha : GE X Γ W a fa f) (hb : GE X Γ W b fb g) : GE X Γ W (.BinOp a .Pow b pos) .all (s2 oPow f g) := ge_op (fun p q => pe_op op_pow p q) hop_pow ha hb
theorem ge_neg (ha : GE X Γ W a fa f) : GE X Γ W (.UnaryOp .USub a pos) .all (s1 oNeg f) := ge_un (fun p => pe_un un_neg p) ha fun x d q => by
  cases x <;> simp [oNeg] at q
  subst q
  exact ⟨rfl, fun H L u Q ru kk => ⟨_, ru, kk⟩⟩

/-- a comparison's operator -/
structure CmpOk (X : Cx) (op : CmpOp) (o : D → D → Option D) : Prop where
  ex : ∃ r : R2, OpR X (compareOp op) r ∧ HOp r o
theorem c_lt : CmpOk X .Lt oLt := ⟨_, op_lt, hop_lt⟩
theorem c_le : CmpOk X .LtE oLe := ⟨_, op_le, hop_le⟩
theorem c_gt : CmpOk X .Gt oGt := ⟨_, op_gt, hop_gt⟩
theorem c_ge : CmpOk X .GtE oGe := ⟨_, op_ge, hop_ge⟩
theorem c_eq (hu : X.A.units + 64 < cLine) : CmpOk X .Eq oEq := ⟨_, op_eqD hu, hop_eq⟩
theorem c_ne (hu : X.A.units + 64 < cLine) : CmpOk X .NotEq oNe := ⟨_, op_neD hu, hop_ne⟩
theorem c_is : CmpOk X .Is oIs' := ⟨_, OpR.isAll, hop_is⟩
theorem c_isN : CmpOk X .IsNot oIsN' := ⟨_, OpR.notAll, hop_isN⟩

theorem ge_cmp {op : CmpOp} {o : D → D → Option D} (C : CmpOk X op o) (ha : GE X Γ W a fa f) (hb : GE X Γ W b fb g) (hm : behindInMarks op b = false := by first | exact nomark _ | rfl) : GE X Γ W (.Compare a [op] [b] pos) .all (s2 o f g) := by
  obtain ⟨r, h1, h2⟩ := C.ex
  exact ge_op (fun p q => pe_cmpR h1 p q hm) h2 ha hb

/-! tests -/
@[simp] def sB (f : En → Out D) : En → Out Bool := fun e => (f e).bind fun d e1 => match d with
  | .bl b => .ok b e1
  | _ => .stuck
theorem tB_of {kk : Fk} {σ : St} {H : Hp} {Q : Bool → Hp → Prop} (h : tT Γ W (sB f) σ H Q) : tE Γ W kk f σ H fun x H' => ∃ b, x = .bl b ∧ Q b H' := by
  obtain ⟨B, F, env, ok, h⟩ := h
  refine ⟨B, F, env, ok, oE.imp (oE.bind h) fun x e1 H1 F1 _ _ ⟨ok1, g1, h1⟩ u ru => ?_⟩
  cases x with
  | bl b => exact ⟨b, ru.x, h1.here ok1⟩
  | _ => exact h1.elim
theorem gt_cmp {op : CmpOp} {o : D → D → Option D} (C : CmpOk X op o) (ha : GE X Γ W a fa f) (hb : GE X Γ W b fb g) (hm : behindInMarks op b = false := by first | exact nomark _ | rfl) : GT X Γ W (.Compare a [op] [b] pos) (sB (s2 o f g)) := by
  obtain ⟨r, h1, h2⟩ := C.ex
  exact ⟨PT.weak (pt_cmpR h1 ha.pe hb.pe hm) fun _ _ _ h => op_core h2 (tB_of h)⟩
/-- an expression whose value is a bool -/
theorem gt_val (ha : GE X Γ W a fa f) (he : ∀ whole, isTrue a X.env whole = (do let v ← whole; standAt a.pos; holding [v] (truthy v)) := by intro _; rfl) : GT X Γ W a (sB f) :=
  ⟨PT.weak (pt_val ha.pe he) fun _ _ _ h => tB_of h⟩
@[simp] def sNotT (c : En → Out Bool) : En → Out Bool := fun e => (c e).bind fun b e1 => .ok (!b) e1
@[simp] def sAndT (c d : En → Out Bool) : En → Out Bool := fun e => (c e).bind fun b e1 => if b = true then d e1 else .ok false e1
@[simp] def sOrT (c d : En → Out Bool) : En → Out Bool := fun e => (c e).bind fun b e1 => if b = true then .ok true e1 else d e1
variable {c1 c2 : En → Out Bool} {rest : List Expr}
structure GW (X : Cx) (Γ : Cy) (W : WX) (e : Expr) (f : En → Out Bool) : Prop where
  pw : PW X e (tT Γ W f)
theorem GW.gt (h : GW X Γ W a c1) : GT X Γ W a c1 := ⟨h.pw.pt⟩
theorem gw_and1 (h : GT X Γ W a c1) : GW X Γ W (.BoolOp .And [a] pos) c1 := ⟨pw_and1 h.pt⟩
theorem gw_or1 (h : GT X Γ W a c1) : GW X Γ W (.BoolOp .Or [a] pos) c1 := ⟨pw_or1 h.pt⟩
theorem PW.weak {e : Expr} {t t' : TT} (h : PW X e t) (w : ∀ σ H Q, t' σ H Q → t σ H Q) : PW X e t' := ⟨fun wh pins s σ H Q I q => h.run wh pins s σ H Q I (w σ H Q q)⟩
theorem gw_and (ha : GT X Γ W a c1) (hb : GW X Γ W (.BoolOp .And (b :: rest) pos) c2) : GW X Γ W (.BoolOp .And (a :: b :: rest) pos) (sAndT c1 c2) := by
  refine ⟨PW.weak (pw_and ha.pt hb.pw) ?_⟩
  rintro σ H Q ⟨B, F, env, ok, h⟩
  refine ⟨B, F, env, ok, oE.imp (oE.bind h) fun x e1 H1 F1 _ _ ⟨ok1, g1, h1⟩ => ?_⟩
  cases x with
  | true => exact ⟨B, F1, e1, ok1, h1⟩
  | false => exact h1.here ok1
theorem gw_or (ha : GT X Γ W a c1) (hb : GW X Γ W (.BoolOp .Or (b :: rest) pos) c2) : GW X Γ W (.BoolOp .Or (a :: b :: rest) pos) (sOrT c1 c2) := by
  refine ⟨PW.weak (pw_or ha.pt hb.pw) ?_⟩
  rintro σ H Q ⟨B, F, env, ok, h⟩
  refine ⟨B, F, env, ok, oE.imp (oE.bind h) fun x e1 H1 F1 _ _ ⟨ok1, g1, h1⟩ => ?_⟩
  cases x with
  | true => exact h1.here ok1
  | false => exact ⟨B, F1, e1, ok1, h1⟩
theorem gt_not (ha : GT X Γ W a c1) : GT X Γ W (.UnaryOp .Not a pos) (sNotT c1) := by
  refine ⟨PT.weak (pt_not ha.pt) ?_⟩
  rintro σ H Q ⟨B, F, env, ok, h⟩
  exact ⟨B, F, env, ok, oE.imp (oE.bind h) fun x e1 H1 F1 _ _ ⟨ok1, g1, h1⟩ => h1.here ok1⟩

/-! .. as values -/
@[simp] def sNot (f : En → Out D) : En → Out D := fun e => (f e).bind fun d e1 => match d with
  | .bl b => .ok (.bl (!b)) e1
  | _ => .stuck
@[simp] def sAnd (f g : En → Out D) : En → Out D := fun e => (f e).bind fun d e1 => match d with
  | .bl true => g e1
  | .bl false => .ok (.bl false) e1
  | _ => .stuck
@[simp] def sOr (f g : En → Out D) : En → Out D := fun e => (f e).bind fun d e1 => match d with
  | .bl true => .ok (.bl true) e1
  | .bl false => g e1
  | _ => .stuck
theorem ge_one {op} (h : GE X Γ W a fa f) : GE X Γ W (.BoolOp op [a] pos) fa f := ⟨pe_one h.pe⟩
theorem ge_not (h : GE X Γ W a fa f) : GE X Γ W (.UnaryOp .Not a pos) .all (sNot f) := by
  refine ⟨PE.weak (pe_not h.pe) ?_⟩
  rintro σ H Q ⟨B, F, env, ok, h⟩
  refine ⟨B, F, env, ok, oE.imp (oE.bind h) fun x e1 H1 F1 _ _ ⟨ok1, g1, h1⟩ u ru => ?_⟩
  cases x with
  | bl b => exact ⟨b, ru.x, h1.here ok1 _ rfl⟩
  | _ => exact h1.elim
theorem oE.early {B : Base} {F F1 : Fp} {σ : St} {H H1 : Hp} {kk : Fk} {o : Out D} {Q : VK} (g1 : Go Γ F H F1 H1) (h : oE Γ W B F1 σ H1 o fun d _ H' F' => ∀ v, RepK Γ kk H F' H' d v → Q v H') :
    oE Γ W B F1 σ H1 o fun d _ H' F' => ∀ v, RepK Γ kk H1 F' H' d v → Q v H' := h.imp fun d e H' F' _ _ q v r => q v (r.early g1)
theorem ge_and (ha : GE X Γ W a fa f) (hb : GE X Γ W (.BoolOp .And (b :: rest) pos) fb g) : GE X Γ W (.BoolOp .And (a :: b :: rest) pos) fb (sAnd f g) := by
  refine ⟨PE.weak (pe_and ha.pe hb.pe) ?_⟩
  rintro σ H Q ⟨B, F, env, ok, h⟩
  refine ⟨B, F, env, ok, oE.imp (oE.bind h) fun x e1 H1 F1 _ _ ⟨ok1, g1, h1⟩ u ru => ?_⟩
  cases x with
  | bl b =>
    refine ⟨b, ru.x, ?_⟩
    cases b with
    | true => exact ⟨B, F1, e1, ok1, oE.early g1 h1⟩
    | false => exact h1.here ok1 _ (RepK.of_lf (L := Lx Γ F1) rfl rfl)
  | _ => exact h1.elim
theorem ge_or (ha : GE X Γ W a fa f) (hb : GE X Γ W (.BoolOp .Or (b :: rest) pos) fb g) : GE X Γ W (.BoolOp .Or (a :: b :: rest) pos) fb (sOr f g) := by
  refine ⟨PE.weak (pe_or ha.pe hb.pe) ?_⟩
  rintro σ H Q ⟨B, F, env, ok, h⟩
  refine ⟨B, F, env, ok, oE.imp (oE.bind h) fun x e1 H1 F1 _ _ ⟨ok1, g1, h1⟩ u ru => ?_⟩
  cases x with
  | bl b =>
    refine ⟨b, ru.x, ?_⟩
    cases b with
    | true => exact h1.here ok1 _ (RepK.of_lf (L := Lx Γ F1) rfl rfl)
    | false => exact ⟨B, F1, e1, ok1, oE.early g1 h1⟩
  | _ => exact h1.elim

/-! kinds joined -/
def Fk.min (a b : Fk) : Fk := if a = b then a else match a, b with
  | .all, .out => .out
  | .out, .all => .out
  | .all, .var => .var
  | .var, .all => .var
  | _, _ => .bor
theorem RepK.out {H H1 : Hp} {F : Fp} {d : D} {v : V} (r : RepK Γ .all H F H1 d v) : RepK Γ .out H F H1 d v := by
  cases d with
  | lst ds =>
    obtain ⟨p, xs, e, h1, h2, h3⟩ := r
    exact ⟨p, xs, e, h1, h2, h3.imp (fun _ _ q => q) fun _ _ q l => ⟨q, l.x⟩⟩
  | _ => exact RepK.x (k := .all) r
theorem RepK.toVar {H H1 : Hp} {F : Fp} {d : D} {v : V} (r : RepK Γ .all H F H1 d v) : RepK Γ .var H F H1 d v := Rep.imp (fun _ _ q => q) (fun _ _ q l => ⟨q, l.2⟩) r
theorem RepK.minL {H H1 : Hp} {F : Fp} {k1 k2 : Fk} {d : D} {v : V} (r : RepK Γ k1 H F H1 d v) : RepK Γ (k1.min k2) H F H1 d v := by
  cases k1 <;> cases k2 <;> first | exact r | exact RepK.out r | exact RepK.toVar r | exact RepK.x r
theorem RepK.minR {H H1 : Hp} {F : Fp} {k1 k2 : Fk} {d : D} {v : V} (r : RepK Γ k2 H F H1 d v) : RepK Γ (k1.min k2) H F H1 d v := by
  cases k1 <;> cases k2 <;> first | exact r | exact RepK.out r | exact RepK.toVar r | exact RepK.x r
@[simp] def sIf (c : En → Out Bool) (f g : En → Out D) : En → Out D := fun e => (c e).bind fun b e1 => if b = true then f e1 else g e1
theorem ge_if (hc : GT X Γ W c c1) (ha : GE X Γ W a fa f) (hb : GE X Γ W b fb g) : GE X Γ W (.IfExp c a b pos) (fa.min fb) (sIf c1 f g) := by
  refine ⟨PE.weak (pe_ifExp hc.pt ha.pe hb.pe) ?_⟩
  rintro σ H Q ⟨B, F, env, ok, h⟩
  refine ⟨B, F, env, ok, oE.imp (oE.bind h) fun x e1 H1 F1 _ _ ⟨ok1, g1, h1⟩ => ?_⟩
  cases x with
  | true => exact ⟨B, F1, e1, ok1, (oE.early g1 h1).imp fun d e H' F' _ _ q v r => q v r.minL⟩
  | false => exact ⟨B, F1, e1, ok1, (oE.early g1 h1).imp fun d e H' F' _ _ q v r => q v r.minR⟩

/-! chains -/
@[simp] def sChain (op op' : D → D → Option D) (f g h : En → Out D) : En → Out D := fun e => (f e).bind fun x e1 => (g e1).bind fun y e2 => match op x y with
  | some (.bl true) => (h e2).bind fun z e3 => lift (op' y z) e3
  | some (.bl false) => .ok (.bl false) e2
  | _ => .stuck
theorem chain_core {r r' : R2} {op op' : D → D → Option D} (h1 : HOp r op) (h2 : HOp r' op') {σ : St} {H : Hp} {Q : VK} (h : tE Γ W .all (sChain op op' f g k) σ H Q) : tChain r r' (tE Γ W fa f) (tE Γ W fb g) (tE Γ W fc k) σ H Q := by
  obtain ⟨B, F, env, ok, h⟩ := h
  refine bin_ok ok h fun x y e2 u v H2 F2 ok2 g2 ru rv hh => ?_
  cases q : op x y with
  | none => rw [q] at hh; exact hh.elim
  | some d =>
    rw [q] at hh
    obtain ⟨hs, hr⟩ := h1 x y d q
    refine hr H2 (Lx Γ F2) u v _ ru.x rv.x ?_
    cases d with
    | bl t =>
      refine ⟨t, rfl, ?_⟩
      cases t with
      | true =>
        refine ⟨B, F2, e2, ok2, oE.imp (oE.bind hh) fun z e3 H3 F3 _ _ ⟨ok3, g3, h3⟩ w rw' => ?_⟩
        cases q2 : op' y z with
        | none => rw [q2] at h3; exact h3.elim
        | some d2 =>
          rw [q2] at h3
          obtain ⟨hs2, hr2⟩ := h2 y z d2 q2
          exact hr2 H3 (Lx Γ F3) v w Q (g3.rep rv.x) rw'.x (h3.here ok3 _ (rep_s hs2))
      | false => exact hh.here ok2 _ rfl
    | _ => exact hh.elim
theorem ge_chain {o1 o2 : CmpOp} {p1 p2 : D → D → Option D} (C1 : CmpOk X o1 p1) (C2 : CmpOk X o2 p2) (ha : GE X Γ W a fa f) (hb : GE X Γ W b fb g) (hc : GE X Γ W c fc k) (hm : lastMarks [o1, o2] [b, c] = false := by with_unfolding_all rfl) :
    GE X Γ W (.Compare a [o1, o2] [b, c] pos) .all (sChain p1 p2 f g k) := by
  obtain ⟨r, h1, h2⟩ := C1.ex
  obtain ⟨r', h1', h2'⟩ := C2.ex
  exact ⟨PE.weak (pe_chain h1 h1' ha.pe hb.pe hc.pe hm) fun _ _ _ h => chain_core h2 h2' h⟩
theorem gt_chain {o1 o2 : CmpOp} {p1 p2 : D → D → Option D} (C1 : CmpOk X o1 p1) (C2 : CmpOk X o2 p2) (ha : GE X Γ W a fa f) (hb : GE X Γ W b fb g) (hc : GE X Γ W c fc k) (hm : lastMarks [o1, o2] [b, c] = false := by with_unfolding_all rfl) :
    GT X Γ W (.Compare a [o1, o2] [b, c] pos) (sB (sChain p1 p2 f g k)) := by
  obtain ⟨r, h1, h2⟩ := C1.ex
  obtain ⟨r', h1', h2'⟩ := C2.ex
  exact ⟨PT.weak (pt_chain h1 h1' ha.pe hb.pe hc.pe hm) fun _ _ _ h => chain_core h2 h2' (tB_of h)⟩
end
end Ev

set_option Elab.async false
set_option linter.all false
set_option maxRecDepth 100000
set_option maxHeartbeats 4000000
/-! Ev4: displays, places, slices, + and * of any kind, built-ins by values. -/
namespace Ev
open PySem L2

section
variable {Γ : Cy} {F : Fp} {H H1 H' Hs : Hp}
theorem go_same (k : Same H H') : Go Γ F H F H' where
  keep := fun b o h _ => k b o h
  dom := fun b h => by
    cases e : H b with
    | none => exact absurd e h
    | some o => rw [k b o e]; simp
  same := fun _ _ => rfl
  grow := fun i hi _ h => .inl ⟨i, hi, h⟩
theorem same_upd {p : Addr} {o : HO} (hp : H p = none) : Same H (upd H p o) := fun b u e => by rw [upd_ne (ne_of_none e hp)]; exact e
theorem Rep.same {L : Addr → Prop} (k : Same H H') {d : D} {v : V} (r : Rep H L d v) : Rep H' L d v := r.imp (fun a xs e => k a _ e) fun a xs e l => ⟨k a _ e, l⟩
theorem Reps.same {L : Addr → Prop} (k : Same H H') {d : List D} {v : List V} (r : Reps H L d v) : Reps H' L d v := r.imp (fun a xs e => k a _ e) fun a xs e l => ⟨k a _ e, l⟩
/-- what is known of new places -/
def Nf (Hs : Hp) (F : Fp) (H : Hp) : Prop := ∀ p, H p = none → Lf Hs F p
theorem Nf.of {B : Base} {σ : L2.St} {env : En} (ok : StOk Γ B F σ H env) (g : ∀ p, H p = none → Hs p = none) : Nf Hs F H := fun p hp => ⟨g p hp, ok.notF hp⟩
end

/-! ### lists of expressions -/
def LB (Γ : Cy) (al : Bool) (Hs : Hp) (F : Fp) : Addr → Prop := match al with
  | true => Lf Hs F
  | false => Lx Γ F
def Fk.isAll : Fk → Bool
  | .all => true
  | _ => false
section
variable {Γ : Cy} {F F1 : Fp} {H H1 Hs : Hp}
theorem RepK.lb {k : Fk} {al : Bool} {d : D} {v : V} (r : RepK Γ k Hs F H d v) : Rep H (LB Γ (k.isAll && al) Hs F) d v := by
  cases k with
  | all =>
    cases al with
    | true => exact r
    | false => exact RepK.x (k := .all) r
  | out => exact RepK.x (k := .out) r
  | var => exact RepK.x (k := .var) r
  | mv => exact RepK.x (k := .mv) r
  | bor => exact r
theorem Reps.lbX {al : Bool} {ds : List D} {vs : List V} (r : Reps H (LB Γ al Hs F) ds vs) : Reps H (Lx Γ F) ds vs := by
  cases al with
  | true => exact r.imp (fun _ _ h => h) fun _ _ h l => ⟨h, l.x⟩
  | false => exact r
theorem Reps.lbW {al : Bool} {k : Fk} {ds : List D} {vs : List V} (r : Reps H (LB Γ al Hs F) ds vs) : Reps H (LB Γ (k.isAll && al) Hs F) ds vs := by
  cases k <;> first | exact r | exact r.lbX
theorem Reps.lbE {Hs' : Hp} {Fa Fb : Fp} {al : Bool} {ds : List D} {vs : List V} (g : Go Γ Fa Hs' Fb Hs) (r : Reps H1 (LB Γ al Hs F) ds vs) : Reps H1 (LB Γ al Hs' F) ds vs := by
  cases al with
  | true => exact r.imp (fun _ _ h => h) fun _ _ h l => ⟨h, g.free l.1, l.2⟩
  | false => exact r
theorem Go.repB (g : Go Γ F H F1 H1) {al : Bool} {d : D} {v : V} (r : Rep H (LB Γ al Hs F) d v) : Rep H1 (LB Γ al Hs F1) d v := by
  cases al with
  | true => exact g.repF r
  | false => exact g.rep r
end
def tA (Γ : Cy) (W : WX) (al : Bool) (f : En → Out (List D)) : TA := fun σ H Q => ∃ B F env, StOk Γ B F σ H env ∧
  oE Γ W B F σ H (f env) fun ds _ H' F' => ∀ vs, Reps H' (LB Γ al H F') ds vs → Q vs H'
structure GA (X : Cx) (Γ : Cy) (W : WX) (es : List Expr) (al : Bool) (f : En → Out (List D)) : Prop where
  pa : PA X es (tA Γ W al f)
theorem PA.weak {X : Cx} {es : List Expr} {t t' : TA} (h : PA X es t) (w : ∀ σ H Q, t' σ H Q → t σ H Q) : PA X es t' := ⟨fun pos pins s σ H Q I q => h.run pos pins s σ H Q I (w σ H Q q)⟩
@[simp] def sNil : En → Out (List D) := fun e => .ok [] e
@[simp] def sCons (f : En → Out D) (g : En → Out (List D)) : En → Out (List D) := fun e => (f e).bind fun d e1 => (g e1).bind fun ds e2 => .ok (d :: ds) e2
section
variable {X : Cx} {Γ : Cy} {W : WX} {pos : Pos} {e : Expr} {es : List Expr} {k : Fk} {al : Bool} {f : En → Out D} {g : En → Out (List D)}
theorem ga_nil : GA X Γ W [] true sNil := ⟨PA.weak pa_nil fun _ _ _ ⟨_, _, _, ok, h⟩ => h.here ok _ rfl⟩
theorem ga_cons (h1 : GE X Γ W e k f) (h2 : GA X Γ W es al g) (hs : starEach (e :: es) X.env = (false, eval e X.env) :: starEach es X.env := by rfl) : GA X Γ W (e :: es) (k.isAll && al) (sCons f g) := by
  refine ⟨PA.weak (pa_cons h1.pe h2.pa hs) ?_⟩
  rintro σ H Q ⟨B, F, env, ok, h⟩
  refine ⟨B, F, env, ok, oE.imp (oE.bind h) fun x e1 H1 F1 _ _ ⟨ok1, g1, q1⟩ u ru => ?_⟩
  refine ⟨B, F1, e1, ok1, oE.imp (oE.bind q1) fun ds e2 H2 F2 _ _ ⟨ok2, g2, q2⟩ vs rv => ?_⟩
  exact q2.here ok2 _ (Reps.cons (g2.repB (RepK.lb ru)) (rv.lbE g1).lbW)

/-- at most 1000 written items -/
@[simp] def sTup (g : En → Out (List D)) : En → Out D := fun e => (g e).bind fun ds e1 => if ds.length ≤ 1000 then .ok (.tup ds) e1 else .stuck
@[simp] def sLst (g : En → Out (List D)) : En → Out D := fun e => (g e).bind fun ds e1 => if ds.length ≤ 1000 then .ok (.lst ds) e1 else .stuck
theorem le1000 {n : Nat} (h : n ≤ 1000) : n ≤ sizeLine := Nat.le_trans h (by decide)
def Fk.ofB (al : Bool) (k : Fk) : Fk := if al = true then .all else k
theorem ge_tup {x1} (h : GA X Γ W es al g) : GE X Γ W (.Tuple es x1 pos) (Fk.ofB al .bor) (sTup g) := by
  refine ⟨PE.weak (pe_tup h.pa) ?_⟩
  rintro σ H Q ⟨B, F, env, ok, h⟩
  refine ⟨B, F, env, ok, oE.imp (oE.bind h) fun ds e1 H1 F1 _ _ ⟨ok1, g1, q1⟩ vs rv => ?_⟩
  split at q1
  · rename_i hl
    refine ⟨by rw [rv.length]; exact le1000 hl, fun p hp => ?_⟩
    refine q1 _ _ (ok1.alloc hp) (go_alloc hp) _ ?_
    cases al with
    | true => exact ⟨p, vs, rfl, .inl upd_same, rv.same (same_upd hp)⟩
    | false => exact ⟨p, vs, rfl, .inl upd_same, rv.same (same_upd hp)⟩
  · exact q1.elim
theorem ge_lst (h : GA X Γ W es al g) : GE X Γ W (.List es pos) (Fk.ofB al .out) (sLst g) := by
  refine ⟨PE.weak (pe_lst h.pa) ?_⟩
  rintro σ H Q ⟨B, F, env, ok, h⟩
  refine ⟨B, F, env, ok, oE.imp (oE.bind h) fun ds e1 H1 F1 _ _ ⟨ok1, g1, q1⟩ vs rv => ?_⟩
  split at q1
  · rename_i hl
    refine ⟨by rw [rv.length]; exact le1000 hl, fun p hp => ?_⟩
    refine q1 _ _ (ok1.alloc hp) (go_alloc hp) _ ?_
    have lf : Lf H F1 p := ⟨g1.free hp, ok1.notF hp⟩
    cases al with
    | true => exact ⟨p, vs, rfl, upd_same, lf, rv.same (same_upd hp)⟩
    | false => exact ⟨p, vs, rfl, upd_same, lf, rv.same (same_upd hp)⟩
  · exact q1.elim
end

/-! ### operators with a result of any kind -/
/-- the new heap keeps all; the result is kk new -/
def HOpH (r : R2) (op : D → D → Option D) (kk : Fk → Fk → Fk) : Prop := ∀ x y d, op x y = some d → ∀ (Γ : Cy) (ka kb : Fk) (Hs : Hp) (F : Fp) (H : Hp) (u v : V) (Q : VK), Nf Hs F H → RepK Γ ka Hs F H x u → RepK Γ kb Hs F H y v →
  (∀ v' H', Same H H' → RepK Γ (kk ka kb) Hs F H' d v' → Q v' H') → r u v H Q
section
variable {X : Cx} {Γ : Cy} {W : WX} {pos : Pos} {a b ex : Expr} {fa fb : Fk} {f g : En → Out D} {r : R2} {op : D → D → Option D} {kk : Fk → Fk → Fk}
theorem opH_core (hop : HOpH r op kk) {σ : L2.St} {H : Hp} {Q : VK} (h : tE Γ W (kk fa fb) (s2 op f g) σ H Q) : tOp r (tE Γ W fa f) (tE Γ W fb g) σ H Q := by
  obtain ⟨B, F, env, ok, h⟩ := h
  refine bin_ok ok h fun x y e2 u v H2 F2 ok2 g2 ru rv h2 => ?_
  cases q : op x y with
  | none => rw [q] at h2; exact h2.elim
  | some d =>
    rw [q] at h2
    exact hop x y d q Γ fa fb H F2 H2 u v Q (.of ok2 fun p hp => g2.free hp) ru rv fun v' H' k rr => h2 H' F2 (ok2.kept k) (go_same k) v' rr
theorem ge_opH (rule : ∀ {ta tb : TE}, PE X a ta → PE X b tb → PE X ex (tOp r ta tb)) (hop : HOpH r op kk) (ha : GE X Γ W a fa f) (hb : GE X Γ W b fb g) : GE X Γ W ex (kk fa fb) (s2 op f g) :=
  ⟨PE.weak (rule ha.pe hb.pe) fun _ _ _ h => opH_core hop h⟩
end
/-- a scalar result -/
theorem HOp.h {r : R2} {op : D → D → Option D} (h : HOp r op) (kk : Fk → Fk → Fk) : HOpH r op kk := fun x y d q Γ ka kb Hs F H u v Q _ ru rv k => by
  obtain ⟨hs, hr⟩ := h x y d q
  exact hr H (Lx Γ F) u v Q ru.x rv.x (k _ _ (fun _ _ e => e) (RepK.of_lf (L := Lx Γ F) (by cases d <;> first | rfl | cases hs) (rep_s hs)))

def lim (n : Nat) : Bool := decide (n ≤ 1000000)
theorem lim_le {n : Nat} (h : lim n = true) : n ≤ sizeLine := Nat.le_trans (of_decide_eq_true h) (by decide)
@[simp] def dAdd : D → D → Option D
  | .int i, .int j => some (.int (i + j))
  | .str x, .str y => if lim (x.length + y.length) = true then some (.str (x ++ y)) else none
  | .tup xs, .tup ys => if lim (xs.length + ys.length) = true then some (.tup (xs ++ ys)) else none
  | .lst xs, .lst ys => if lim (xs.length + ys.length) = true then some (.lst (xs ++ ys)) else none
  | _, _ => none
/-- new where both are, else the outer list -/
def kCat : Fk → Fk → Fk
  | .all, .all => .all
  | _, _ => .out
def rAddA (K : PySem.W.Frag) : R2 := fun x y H Q => rI0 (fun i j => .int (i + j)) x y H Q ∨ (∃ i j, x = .str i ∧ y = .str j ∧ i.length + j.length ≤ sizeLine ∧ Q (.str (i ++ j)) H) ∨ rCatA K x y H Q ∨ rCat x y H Q
theorem op_addA {X : Cx} : OpR X (binaryOp .Add) (rAddA X.K) := op_add.or (op_add_str.or (op_catA.or op_cat))
theorem RepK.lst {Γ : Cy} {k : Fk} {Hs H : Hp} {F : Fp} {ds : List D} {v : V} (r : RepK Γ k Hs F H (.lst ds) v) : ∃ a xs, v = .ref a ∧ H a = some (.lst xs) ∧ Reps H (LB Γ k.isAll Hs F) ds xs := by
  cases k with
  | all => obtain ⟨a, xs, e, h1, h2, h3⟩ := r; exact ⟨a, xs, e, h1, h3⟩
  | out => obtain ⟨a, xs, e, h1, h2, h3⟩ := r; exact ⟨a, xs, e, h1, h3⟩
  | bor => obtain ⟨a, xs, e, h1, h2, h3⟩ := r; exact ⟨a, xs, e, h1, h3⟩
  | var => obtain ⟨a, xs, e, h1, h2, h3⟩ := r.x; exact ⟨a, xs, e, h1, h3⟩
  | mv => obtain ⟨a, xs, e, h1, h2, h3⟩ := r.x; exact ⟨a, xs, e, h1, h3⟩
theorem RepK.tup {Γ : Cy} {k : Fk} {Hs H : Hp} {F : Fp} {ds : List D} {v : V} (r : RepK Γ k Hs F H (.tup ds) v) : ∃ a xs, v = .ref a ∧ Rd H a (.tup xs) ∧ Reps H (LB Γ k.isAll Hs F) ds xs := by
  cases k with
  | all => obtain ⟨a, xs, e, h1, h2⟩ := r; exact ⟨a, xs, e, h1, h2⟩
  | out => obtain ⟨a, xs, e, h1, h2⟩ := r; exact ⟨a, xs, e, h1, h2⟩
  | bor => obtain ⟨a, xs, e, h1, h2⟩ := r; exact ⟨a, xs, e, h1, h2⟩
  | var => obtain ⟨a, xs, e, h1, h2⟩ := r.x; exact ⟨a, xs, e, h1, h2⟩
  | mv => obtain ⟨a, xs, e, h1, h2⟩ := r.x; exact ⟨a, xs, e, h1, h2⟩
theorem LB.and {Γ : Cy} {ka kb : Fk} {Hs H : Hp} {F : Fp} {ds : List D} {vs : List V} (r : Reps H (LB Γ ka.isAll Hs F) ds vs) : Reps H (LB Γ (kCat ka kb).isAll Hs F) ds vs := by
  cases ka <;> cases kb <;> first | exact r | exact r.lbX
theorem LB.and' {Γ : Cy} {ka kb : Fk} {Hs H : Hp} {F : Fp} {ds : List D} {vs : List V} (r : Reps H (LB Γ kb.isAll Hs F) ds vs) : Reps H (LB Γ (kCat ka kb).isAll Hs F) ds vs := by
  cases ka <;> cases kb <;> first | exact r | exact r.lbX
/-- kinds of new things -/
def Fk.nw : Fk → Bool
  | .all => true
  | .out => true
  | _ => false
theorem RepK.mkTup {Γ : Cy} {k : Fk} {Hs H : Hp} {F : Fp} {ds : List D} {a : Addr} {xs : List V} (h : Rd H a (.tup xs)) (r : Reps H (LB Γ k.isAll Hs F) ds xs) (hk : k.nw = true) : RepK Γ k Hs F H (.tup ds) (.ref a) := by
  cases k <;> first | exact ⟨a, xs, rfl, h, r⟩ | cases hk
theorem RepK.mkLst {Γ : Cy} {k : Fk} {Hs H : Hp} {F : Fp} {ds : List D} {a : Addr} {xs : List V} (h : H a = some (.lst xs)) (l : Lf Hs F a) (r : Reps H (LB Γ k.isAll Hs F) ds xs) (hk : k.nw = true) : RepK Γ k Hs F H (.lst ds) (.ref a) := by
  cases k <;> first | exact ⟨a, xs, rfl, h, l, r⟩ | cases hk
theorem kCat_nw {a b : Fk} : (kCat a b).nw = true := by cases a <;> cases b <;> rfl
theorem hop_addA {K : PySem.W.Frag} : HOpH (rAddA K) dAdd kCat := fun x y d q Γ ka kb Hs F H u v Q nf ru rv k => by
  unfold dAdd at q
  split at q
  · cases q
    exact .inl ⟨_, _, ru.x, rv.x, k _ _ (Same.refl H) (RepK.of_lf (L := Lx Γ F) rfl rfl)⟩
  · split at q
    · rename_i hl
      cases q
      exact .inr (.inl ⟨_, _, ru.x, rv.x, lim_le hl, k _ _ (Same.refl H) (RepK.of_lf (L := Lx Γ F) rfl rfl)⟩)
    · cases q
  · split at q
    · rename_i hl
      cases q
      obtain ⟨a, xs, rfl, hA, rA⟩ := ru.tup
      obtain ⟨b, ys, rfl, hB, rB⟩ := rv.tup
      refine .inr (.inr (.inl ⟨a, b, xs, ys, rfl, rfl, (Or.inl hA), (Or.inl hB), by rw [rA.length, rB.length]; exact lim_le hl, fun e => ?_, fun _ e => ?_, fun _ _ p hp => ?_⟩))
      · subst e
        have e2 := rA.length
        refine k _ _ (Same.refl H) ?_
        rw [List.eq_nil_of_length_eq_zero e2.symm, List.nil_append]
        exact RepK.mkTup hB (LB.and' rB) kCat_nw
      · subst e
        have e2 := rB.length
        refine k _ _ (Same.refl H) ?_
        rw [List.eq_nil_of_length_eq_zero e2.symm, List.append_nil]
        exact RepK.mkTup hA (LB.and rA) kCat_nw
      · exact k _ _ (same_upd hp) (RepK.mkTup (.inl upd_same) ((LB.and rA).append (LB.and' rB) |>.same (same_upd hp)) kCat_nw)
    · cases q
  · split at q
    · rename_i hl
      cases q
      obtain ⟨a, xs, rfl, hA, rA⟩ := ru.lst
      obtain ⟨b, ys, rfl, hB, rB⟩ := rv.lst
      refine .inr (.inr (.inr ⟨a, b, xs, ys, rfl, rfl, hA, hB, by rw [rA.length, rB.length]; exact lim_le hl, fun p hp => ?_⟩))
      exact k _ _ (same_upd hp) (RepK.mkLst upd_same (nf p hp) ((LB.and rA).append (LB.and' rB) |>.same (same_upd hp)) kCat_nw)
    · cases q
  · cases q

@[simp] def dMul : D → D → Option D
  | .int i, .int j => if mulB i j = true then some (.int (i * j)) else none
  | .lst xs, .int k => if decide (-(1000000) ≤ k) && decide (k ≤ 1000000) && lim (xs.length * k.toNat) then some (.lst (List.replicate k.toNat xs).flatten) else none
  | _, _ => none
def kRep : Fk → Fk → Fk := fun a _ => match a with
  | .all => .all
  | _ => .out
def rMulA : R2 := fun x y H Q => rI CMulX (fun i j => .int (i * j)) x y H Q ∨ rRep x y H Q
theorem op_mulA {X : Cx} : OpR X (binaryOp .Mult) rMulA := op_mulX.or op_rep
theorem Reps.rep {H : Hp} {L : Addr → Prop} {ds : List D} {vs : List V} (h : Reps H L ds vs) : ∀ k : Nat, Reps H L (List.replicate k ds).flatten (List.replicate k vs).flatten
  | 0 => rfl
  | k + 1 => by
    rw [List.replicate_succ, List.replicate_succ, List.flatten_cons, List.flatten_cons]
    exact h.append (Reps.rep h k)
theorem hop_mulA : HOpH rMulA dMul kRep := fun x y d q Γ ka kb Hs F H u v Q nf ru rv k => by
  unfold dMul at q
  split at q
  · split at q
    · rename_i hl
      cases q
      exact .inl ⟨_, _, ru.x, rv.x, (by unfold mulB at hl; unfold CMulX; exact of_decide_eq_true hl), k _ _ (Same.refl H) (RepK.of_lf (L := Lx Γ F) rfl rfl)⟩
    · cases q
  · split at q
    · rename_i xs n hl
      cases q
      rw [Bool.and_eq_true, Bool.and_eq_true] at hl
      obtain ⟨⟨h1, h2⟩, h3⟩ := hl
      have h1' := of_decide_eq_true h1
      have h2' := of_decide_eq_true h2
      obtain ⟨a, ys, rfl, hA, rA⟩ := ru.lst
      refine .inr ⟨a, _, ys, rfl, rv.x, hA, by omega, by omega, by rw [rA.length]; exact lim_le h3, fun p hp => ?_⟩
      refine k _ _ (same_upd hp) (RepK.mkLst upd_same (nf p hp) (((?_ : Reps H (LB Γ (kRep ka kb).isAll Hs F) _ _).rep n.toNat).same (same_upd hp)) (by cases ka <;> rfl))
      cases ka <;> exact rA
    · cases q
  · cases q

/-! ### places -/
@[simp] def dIx : D → D → Option D
  | .lst ds, .int i => atI ds i
  | .tup ds, .int i => atI ds i
  | _, _ => none
def kIx : Fk → Fk → Fk := fun a _ => match a with
  | .all => .all
  | .var => .var
  | .mv => .var
  | _ => .bor
theorem Reps.at {H : Hp} {L : Addr → Prop} {ds : List D} {vs : List V} {i : Int} {d : D} (h : Reps H L ds vs) (e : atI ds i = some d) : ∃ v, atI vs i = some v ∧ Rep H L d v := by
  unfold atI at e ⊢
  rw [h.length]
  cases q : ixN ds.length i with
  | none => rw [q] at e; cases e
  | some j =>
    rw [q] at e
    exact h.get e
theorem RepK.lstI {Γ : Cy} {ka kb : Fk} {Hs H : Hp} {F : Fp} {ds : List D} {v : V} (r : RepK Γ ka Hs F H (.lst ds) v) : ∃ a xs, v = .ref a ∧ H a = some (.lst xs) ∧ ∃ L, Reps H L ds xs ∧ ∀ d w, Rep H L d w → RepK Γ (kIx ka kb) Hs F H d w := by
  cases ka <;> obtain ⟨a, xs, e, h1, h2, h3⟩ := r <;> exact ⟨a, xs, e, h1, _, h3, fun _ _ q => q⟩
theorem RepK.tupI {Γ : Cy} {ka kb : Fk} {Hs H : Hp} {F : Fp} {ds : List D} {v : V} (r : RepK Γ ka Hs F H (.tup ds) v) : ∃ a xs, v = .ref a ∧ Rd H a (.tup xs) ∧ ∃ L, Reps H L ds xs ∧ ∀ d w, Rep H L d w → RepK Γ (kIx ka kb) Hs F H d w := by
  cases ka <;> obtain ⟨a, xs, e, h1, h3⟩ := r <;> exact ⟨a, xs, e, h1, _, h3, fun _ _ q => q⟩
theorem hop_ix {K : PySem.W.Frag} : HOpH (rIx K) dIx kIx := fun x y d q Γ ka kb Hs F H u v Q nf ru rv k => by
  unfold dIx at q
  split at q
  · obtain ⟨a, xs, rfl, hA, L, rA, fin⟩ := ru.lstI (kb := kb)
    obtain ⟨w, e, r⟩ := rA.at q
    exact .inl ⟨a, xs, _, w, rfl, rv.x, SqL.of hA, e, k _ _ (Same.refl H) (fin _ _ r)⟩
  · obtain ⟨a, xs, rfl, hA, L, rA, fin⟩ := ru.tupI (kb := kb)
    obtain ⟨w, e, r⟩ := rA.at q
    exact .inr (.inl ⟨a, xs, _, w, rfl, rv.x, (Or.inl hA), e, k _ _ (Same.refl H) (fin _ _ r)⟩)
  · cases q
section
variable {X : Cx} {Γ : Cy} {W : WX} {pos : Pos} {a b c : Expr} {fa fb fc : Fk} {f g h : En → Out D}
theorem ge_add (ha : GE X Γ W a fa f) (hb : GE X Γ W b fb g) : GE X Γ W (.BinOp a .Add b pos) (kCat fa fb) (s2 dAdd f g) := ge_opH (fun p q => pe_op op_addA p q) hop_addA ha hb
theorem ge_mul (ha : GE X Γ W a fa f) (hb : GE X Γ W b fb g) : GE X Γ W (.BinOp a .Mult b pos) (kRep fa fb) (s2 dMul f g) := ge_opH (fun p q => pe_op op_mulA p q) hop_mulA ha hb
theorem ge_ix (ha : GE X Γ W a fa f) (hb : GE X Γ W b fb g) (hs : PlainIx b := by intro _ _; rfl) : GE X Γ W (.Subscript a b pos) (kIx fa fb) (s2 dIx f g) := ge_opH (fun p q => pe_ix ix_seq p q hs) hop_ix ha hb
end

/-! ### slices -/
abbrev OP := En → Out (Option Int)
def tO (Γ : Cy) (W : WX) (f : OP) : TO := fun σ H Q => ∃ B F env, StOk Γ B F σ H env ∧ oE Γ W B F σ H (f env) fun b _ H' F' => Q b H'
structure GO (X : Cx) (Γ : Cy) (W : WX) (e : Option Expr) (f : OP) : Prop where
  po : PO X e (tO Γ W f)
theorem PO.weak {X : Cx} {e : Option Expr} {t t' : TO} (h : PO X e t) (w : ∀ σ H Q, t' σ H Q → t σ H Q) : PO X e t' := ⟨fun pins s σ H Q I q => h.run pins s σ H Q I (w σ H Q q)⟩
@[simp] def sNoPart : OP := fun e => .ok none e
@[simp] def sPart (f : En → Out D) : OP := fun e => (f e).bind fun d e1 => match d with
  | .int i => .ok (some i) e1
  | _ => .stuck
def cutD (xs : List D) (lo hi : Option Int) : List D := (xs.drop (HT.sIx xs.length 0 lo)).take (HT.sIx xs.length xs.length hi - HT.sIx xs.length 0 lo)
theorem cutD_whole {xs : List D} {lo hi : Option Int} (h : HT.sIx xs.length 0 lo = 0 ∧ HT.sIx xs.length xs.length hi = xs.length) : cutD xs lo hi = xs := by
  unfold cutD
  rw [h.1, h.2, List.drop_zero, Nat.sub_zero, List.take_length]
theorem Reps.cut {H : Hp} {L : Addr → Prop} {ds : List D} {vs : List V} (h : Reps H L ds vs) (lo hi : Option Int) : Reps H L (cutD ds lo hi) (cutV vs lo hi) := by
  unfold cutD cutV
  rw [h.length]
  exact (h.drop _).take _
@[simp] def dCut (x : D) (lo hi : Option Int) : Option D := match x with
  | .lst ds => some (.lst (cutD ds lo hi))
  | .tup ds => some (.tup (cutD ds lo hi))
  | .str z => if lim z.length = true then some (.str (cutS z lo hi)) else none
  | _ => none
def kCut : Fk → Fk
  | .all => .all
  | _ => .out
@[simp] def sCut (f : En → Out D) (l h : OP) : En → Out D := fun e => (f e).bind fun x e1 => (l e1).bind fun lo e2 => (h e2).bind fun hi e3 => lift (dCut x lo hi) e3
section
variable {X : Cx} {Γ : Cy} {W : WX} {pos p2 : Pos} {e : Expr} {lo hi : Option Expr} {k : Fk} {f : En → Out D} {tl th : OP}
theorem go_none : GO X Γ W none sNoPart := ⟨PO.weak po_none fun _ _ _ ⟨_, _, _, ok, h⟩ => h.here ok⟩
theorem go_some (h : GE X Γ W e k f) : GO X Γ W (some e) (sPart f) := by
  refine ⟨PO.weak (po_some h.pe) ?_⟩
  rintro σ H Q ⟨B, F, env, ok, h⟩
  refine ⟨B, F, env, ok, oE.imp (oE.bind h) fun x e1 H1 F1 _ _ ⟨ok1, g1, h1⟩ u ru => ?_⟩
  cases x with
  | int i => exact ⟨i, ru.x, h1.here ok1⟩
  | _ => exact h1.elim
def rSlAll (K : PySem.W.Frag) : V → Option Int → Option Int → Hp → VK → Prop := fun x lo hi H Q => rSlL K x lo hi H Q ∨ rSlA K x lo hi H Q ∨ rSlS x lo hi H Q
theorem sl_all : SlR X (rSlAll X.K) := SlR.or sl_list (SlR.or sl_tupA sl_str)
theorem ge_slice (he : GE X Γ W e k f) (hl : GO X Γ W lo tl) (hu : GO X Γ W hi th) : GE X Γ W (.Subscript e (.Slice lo hi none p2) pos) (kCut k) (sCut f tl th) := by
  refine ⟨PE.weak (pe_slice sl_all he.pe hl.po hu.po) ?_⟩
  rintro σ H Q ⟨B, F, env, ok, h⟩
  refine ⟨B, F, env, ok, oE.imp (oE.bind h) fun x e1 H1 F1 _ _ ⟨ok1, g1, h1⟩ u ru => ?_⟩
  refine ⟨B, F1, e1, ok1, oE.imp (oE.bind h1) fun l e2 H2 F2 _ _ ⟨ok2, g2, h2⟩ => ?_⟩
  refine ⟨B, F2, e2, ok2, oE.imp (oE.bind h2) fun h e3 H3 F3 _ _ ⟨ok3, g3, h3⟩ => ?_⟩
  have r3 := (g2.trans g3).repK ru
  have nf : Nf H F3 H3 := .of ok3 fun p hp => g1.free (g2.free (g3.free hp))
  cases x with
  | lst ds =>
    obtain ⟨a, xs, rfl, hA, rA⟩ := r3.lst
    refine .inl ⟨a, xs, rfl, SqL.of hA, fun p hp => h3 _ _ (ok3.alloc hp) (go_alloc hp) _ (RepK.mkLst upd_same (nf p hp) ?_ (by cases k <;> rfl))⟩
    refine ((?_ : Reps H3 (LB Γ (kCut k).isAll H F3) _ _).cut l h).same (same_upd hp)
    cases k <;> exact rA
  | tup ds =>
    obtain ⟨a, xs, rfl, hA, rA⟩ := r3.tup
    have rA' : Reps H3 (LB Γ (kCut k).isAll H F3) ds xs := by cases k <;> exact rA
    refine .inr (.inl ⟨a, xs, rfl, (Or.inl hA), fun w => ?_, fun _ p hp => h3 _ _ (ok3.alloc hp) (go_alloc hp) _ (RepK.mkTup (.inl upd_same) ((rA'.cut l h).same (same_upd hp)) (by cases k <;> rfl))⟩)
    rw [rA.length] at w
    have h3' : oE Γ W B F3 σ H3 (Out.ok (D.tup (cutD ds l h)) e3) _ := h3
    rw [cutD_whole w] at h3'
    exact h3'.here ok3 _ (RepK.mkTup hA rA' (by cases k <;> rfl))
  | str z =>
    have h3' : oE Γ W B F3 σ H3 (lift (if lim z.length = true then some (D.str (cutS z l h)) else none) e3) _ := h3
    split at h3'
    · rename_i hz
      exact .inr (.inr ⟨z, r3.x, lim_le hz, h3'.here ok3 _ (RepK.of_lf (L := Lx Γ F3) rfl rfl)⟩)
    · exact h3'.elim
  | _ => exact h3.elim
end
end Ev

set_option Elab.async false
set_option linter.all false
set_option maxRecDepth 100000
set_option maxHeartbeats 4000000
/-! Ev5: what a def promises; calls of defs; built-ins by values. -/
namespace Ev
open PySem L2

/-- what a def does: the value and the arguments as they stand behind (those that it may change) -/
inductive COut where
  | ok (d : D) (xs : List D) | raise (c : Nat) (xs : List D) | stuck

def gc (C : Addr) (exc : Nat → Addr) (xm : List Nat) : Cy := ⟨[], xm, exc, C, []⟩
structure XBack (C : Addr) (xm : List Nat) (vs : List V) (H : Hp) (xs : List D) (H' : Hp) (F F' : Fp) : Prop where
  x : ∀ i ∈ xm, ∃ d v, xs[i]? = some d ∧ vs[i]? = some v ∧ XOk C H' (F' i) d v
  disj : ∀ i j b, i ≠ j → b ∈ F' i → b ∉ F' j
  emp : ∀ i, i ∉ xm → F' i = []
structure XArgs (C : Addr) (xm : List Nat) (ds : List D) (vs : List V) (H : Hp) (F : Fp) : Prop where
  len : vs.length = ds.length
  arg : ∀ i d, ds[i]? = some d → ∃ v, vs[i]? = some v ∧ if i ∈ xm then XOk C H (F i) d v else Rep H (La F) d v
  disj : ∀ i j b, i ≠ j → b ∈ F i → b ∉ F j
  emp : ∀ i, i ∉ xm → F i = []
  low : ∀ i ∈ xm, i < ds.length
/-- THE PROMISE: a def of n parameters (xm: the places of those that it may change) does as Φ says -/
def spD (C : Addr) (exc : Nat → Addr) (n : Nat) (xm : List Nat) (Φ : List D → COut) : Sp := fun vs H Q E => ∃ (ds : List D) (F : Fp), ds.length = n ∧ XArgs C xm ds vs H F ∧
  match Φ ds with
  | .ok d xs => ∀ v H' F', Go (gc C exc xm) F H F' H' → XBack C xm vs H xs H' F F' → Rep H' (Lf H F') d v → Q v H'
  | .raise c xs => ∀ H' F', Go (gc C exc xm) F H F' H' → XBack C xm vs H xs H' F F' → E (.ref (exc c)) none H'
  | .stuck => False

/-! ### arguments -/
/-- at the slots sl: an object handed on -/
def CArgs (Γ : Cy) (F : Fp) (H : Hp) (σ : L2.St) : List (Option Nat) → List D → List V → Prop
  | [], [], [] => True
  | none :: sl, d :: ds, v :: vs => Rep H (Lx Γ F) d v ∧ CArgs Γ F H σ sl ds vs
  | some i :: sl, _ :: ds, v :: vs => i ∈ Γ.X ∧ σ[i]? = some (some v) ∧ CArgs Γ F H σ sl ds vs
  | _, _, _ => False
def tGC (Γ : Cy) (W : WX) (sl : List (Option Nat)) (f : En → Out (List D)) : TA := fun σ H Q => ∃ B F env, StOk Γ B F σ H env ∧
  oE Γ W B F σ H (f env) fun ds _ H' F' => ∀ vs, CArgs Γ F' H' σ sl ds vs → Q vs H'
structure GC (X : Cx) (Γ : Cy) (W : WX) (es : List Expr) (sl : List (Option Nat)) (f : En → Out (List D)) : Prop where
  pa : PA X es (tGC Γ W sl f)
theorem CArgs.go {Γ : Cy} {F F1 : Fp} {H H1 : Hp} {σ : L2.St} (g : Go Γ F H F1 H1) : ∀ {sl : List (Option Nat)} {ds : List D} {vs : List V}, CArgs Γ F H σ sl ds vs → CArgs Γ F1 H1 σ sl ds vs
  | [], [], [], h => h
  | none :: sl, d :: ds, v :: vs, h => ⟨g.rep h.1, CArgs.go g h.2⟩
  | some i :: sl, d :: ds, v :: vs, h => ⟨h.1, h.2.1, CArgs.go g h.2.2⟩
  | [], [], _ :: _, h => h.elim
  | [], _ :: _, [], h => h.elim
  | [], _ :: _, _ :: _, h => h.elim
  | none :: _, [], [], h => h.elim
  | none :: _, [], _ :: _, h => h.elim
  | none :: _, _ :: _, [], h => h.elim
  | some _ :: _, [], [], h => h.elim
  | some _ :: _, [], _ :: _, h => h.elim
  | some _ :: _, _ :: _, [], h => h.elim
theorem CArgs.get {Γ : Cy} {F : Fp} {H : Hp} {σ : L2.St} : ∀ {sl : List (Option Nat)} {ds : List D} {vs : List V}, CArgs Γ F H σ sl ds vs → ds.length = sl.length ∧ vs.length = sl.length ∧
    ∀ (j : Nat) s, sl[j]? = some s → ∃ d v, ds[j]? = some d ∧ vs[j]? = some v ∧ ((s = none ∧ Rep H (Lx Γ F) d v) ∨ ∃ i, s = some i ∧ i ∈ Γ.X ∧ σ[i]? = some (some v))
  | [], [], [], _ => ⟨rfl, rfl, fun j s e => by simp at e⟩
  | none :: sl, d :: ds, v :: vs, h => by
    obtain ⟨h1, h2, h3⟩ := CArgs.get h.2
    refine ⟨by simp [h1], by simp [h2], fun j s e => ?_⟩
    cases j with
    | zero =>
      simp at e; subst e
      exact ⟨d, v, rfl, rfl, .inl ⟨rfl, h.1⟩⟩
    | succ j =>
      obtain ⟨d', v', a, b, c⟩ := h3 j s (by simpa using e)
      exact ⟨d', v', by simpa using a, by simpa using b, c⟩
  | some i :: sl, d :: ds, v :: vs, h => by
    obtain ⟨h1, h2, h3⟩ := CArgs.get h.2.2
    refine ⟨by simp [h1], by simp [h2], fun j s e => ?_⟩
    cases j with
    | zero =>
      simp at e; subst e
      exact ⟨d, v, rfl, rfl, .inr ⟨i, rfl, h.1, h.2.1⟩⟩
    | succ j =>
      obtain ⟨d', v', a, b, c⟩ := h3 j s (by simpa using e)
      exact ⟨d', v', by simpa using a, by simpa using b, c⟩
  | [], [], _ :: _, h => h.elim
  | [], _ :: _, [], h => h.elim
  | [], _ :: _, _ :: _, h => h.elim
  | none :: _, [], [], h => h.elim
  | none :: _, [], _ :: _, h => h.elim
  | none :: _, _ :: _, [], h => h.elim
  | some _ :: _, [], [], h => h.elim
  | some _ :: _, [], _ :: _, h => h.elim
  | some _ :: _, _ :: _, [], h => h.elim

@[simp] def sConsX (i : Nat) (g : En → Out (List D)) : En → Out (List D) := fun e => match e[i]? with
  | some (some _) => (g e).bind fun ds e1 => .ok (.non :: ds) e1
  | _ => .stuck
/-- the arguments as they stand at the call -/
@[simp] def fillX (e : En) : List (Option Nat) → List D → List D
  | none :: sl, d :: ds => d :: fillX e sl ds
  | some i :: sl, _ :: ds => (match e[i]? with
    | some (some d) => d
    | _ => .non) :: fillX e sl ds
  | _, _ => []
/-- .. and behind it -/
@[simp] def putX : En → List (Option Nat) → List D → En
  | e, none :: sl, _ :: ds => putX e sl ds
  | e, some i :: sl, d :: ds => putX (e.set i (some d)) sl ds
  | e, _, _ => e
def ixS : List (Option Nat) → Nat → Option Nat
  | [], _ => none
  | s :: sl, i => if s = some i then some 0 else (ixS sl i).map (· + 1)
def ndS : List (Option Nat) → Bool
  | [] => true
  | none :: sl => ndS sl
  | some i :: sl => !(sl.contains (some i)) && ndS sl
/-- the places of the objects -/
def xmS (sl : List (Option Nat)) : List Nat := (List.range sl.length).filter fun j => (sl.getD j none).isSome
theorem ixS_some : ∀ {sl : List (Option Nat)} {i j : Nat}, ixS sl i = some j → sl[j]? = some (some i)
  | s :: sl, i, j, h => by
    unfold ixS at h
    split at h
    · rename_i e
      cases h
      simp [e]
    · cases q : ixS sl i with
      | none => rw [q] at h; cases h
      | some k =>
        rw [q] at h
        cases h
        have := ixS_some q
        simpa using this
theorem ixS_none : ∀ {sl : List (Option Nat)} {i : Nat}, ixS sl i = none → ∀ j : Nat, sl[j]? ≠ some (some i)
  | [], i, _, j => by simp
  | s :: sl, i, h, j => by
    unfold ixS at h
    split at h
    · cases h
    · rename_i e
      cases q : ixS sl i with
      | some k => rw [q] at h; cases h
      | none =>
        cases j with
        | zero => simpa using e
        | succ j => simpa using ixS_none q j
theorem ndS_ix : ∀ {sl : List (Option Nat)}, ndS sl = true → ∀ (j i : Nat), sl[j]? = some (some i) → ixS sl i = some j
  | [], _, j, i, h => by simp at h
  | none :: sl, nd, j, i, h => by
    unfold ndS at nd
    cases j with
    | zero => simp at h
    | succ j =>
      have := ndS_ix nd j i (by simpa using h)
      unfold ixS
      rw [if_neg (by simp), this]
      rfl
  | some k :: sl, nd, j, i, h => by
    unfold ndS at nd
    rw [Bool.and_eq_true] at nd
    cases j with
    | zero =>
      simp at h; subst h
      unfold ixS
      rw [if_pos rfl]
    | succ j =>
      have h' : sl[j]? = some (some i) := by simpa using h
      have hne : k ≠ i := by
        rintro rfl
        have hm : some k ∈ sl := List.mem_of_getElem? h'
        have hc : sl.contains (some k) = true := List.contains_iff_mem.mpr hm
        rw [hc] at nd
        simp at nd
      have := ndS_ix nd.2 j i h'
      unfold ixS
      rw [if_neg (fun z => hne (Option.some.inj z)), this]
      rfl
theorem fillX_get {e : En} : ∀ {sl : List (Option Nat)} {ds : List D} {j : Nat} {s : Option Nat} {d : D}, sl[j]? = some s → ds[j]? = some d → (fillX e sl ds)[j]? = some (match s with
    | none => d
    | some i => (match e[i]? with
      | some (some d) => d
      | _ => .non))
  | [], _, _, _, _, h, _ => by simp at h
  | _ :: _, [], _, _, _, _, h => by simp at h
  | none :: sl, d :: ds, 0, s, d', h1, h2 => by
    simp at h1 h2; subst h1; subst h2
    simp [fillX]
  | some i :: sl, d :: ds, 0, s, d', h1, h2 => by
    simp at h1 h2; subst h1; subst h2
    simp [fillX]
  | none :: sl, d :: ds, j + 1, s, d', h1, h2 => by
    have := fillX_get (e := e) (sl := sl) (ds := ds) (j := j) (by simpa using h1) (by simpa using h2)
    simpa [fillX] using this
  | some i :: sl, d :: ds, j + 1, s, d', h1, h2 => by
    have := fillX_get (e := e) (sl := sl) (ds := ds) (j := j) (by simpa using h1) (by simpa using h2)
    simpa [fillX] using this
theorem fillX_length {e : En} : ∀ {sl : List (Option Nat)} {ds : List D}, ds.length = sl.length → (fillX e sl ds).length = sl.length
  | [], [], _ => rfl
  | none :: sl, d :: ds, h => by simp [fillX, fillX_length (e := e) (sl := sl) (ds := ds) (by simpa using h)]
  | some i :: sl, d :: ds, h => by simp [fillX, fillX_length (e := e) (sl := sl) (ds := ds) (by simpa using h)]
  | [], _ :: _, h => by simp at h
  | _ :: _, [], h => by simp at h
theorem putX_length : ∀ {sl : List (Option Nat)} {e : En} {ds : List D}, (putX e sl ds).length = e.length
  | [], _, _ => by simp [putX]
  | none :: sl, e, [] => by simp [putX]
  | some i :: sl, e, [] => by simp [putX]
  | none :: sl, e, d :: ds => by simp [putX, putX_length (sl := sl) (e := e) (ds := ds)]
  | some i :: sl, e, d :: ds => by simp [putX, putX_length (sl := sl) (e := e.set i (some d)) (ds := ds)]
theorem putX_out : ∀ {sl : List (Option Nat)} {e : En} {ds : List D} {i : Nat}, ixS sl i = none → (putX e sl ds)[i]? = e[i]?
  | [], _, _, _, _ => by simp [putX]
  | none :: sl, e, [], i, _ => by simp [putX]
  | some i :: sl, e, [], _, _ => by simp [putX]
  | none :: sl, e, d :: ds, i, h => by
    unfold ixS at h
    rw [if_neg (by simp)] at h
    have h' : ixS sl i = none := by
      cases q : ixS sl i with
      | none => rfl
      | some k => rw [q] at h; cases h
    simp [putX, putX_out h']
  | some k :: sl, e, d :: ds, i, h => by
    unfold ixS at h
    split at h
    · cases h
    · rename_i hne
      have h' : ixS sl i = none := by
        cases q : ixS sl i with
        | none => rfl
        | some k => rw [q] at h; cases h
      simp only [putX]
      rw [putX_out h', List.getElem?_set_ne (fun z => hne (by rw [z]))]
theorem putX_in : ∀ {sl : List (Option Nat)} {e : En} {ds : List D} {i j : Nat} {d : D}, ndS sl = true → ixS sl i = some j → ds[j]? = some d → i < e.length → (putX e sl ds)[i]? = some (some d)
  | none :: sl, e, [], i, j, d, _, _, h, _ => by simp at h
  | some k :: sl, e, [], i, j, d, _, _, h, _ => by simp at h
  | none :: sl, e, d :: ds, i, j, d', nd, h1, h2, hl => by
    unfold ixS at h1
    rw [if_neg (by simp)] at h1
    cases q : ixS sl i with
    | none => rw [q] at h1; cases h1
    | some k =>
      rw [q] at h1
      cases h1
      simp only [putX]
      exact putX_in (by unfold ndS at nd; exact nd) q (by simpa using h2) hl
  | some k :: sl, e, d :: ds, i, j, d', nd, h1, h2, hl => by
    unfold ndS at nd
    rw [Bool.and_eq_true] at nd
    unfold ixS at h1
    split at h1
    · rename_i e1
      cases h1
      have e1 : k = i := Option.some.inj e1
      subst e1
      simp at h2; subst h2
      simp only [putX]
      have hn : ixS sl k = none := by
        cases q : ixS sl k with
        | none => rfl
        | some m =>
          have := ixS_some q
          have hm : some k ∈ sl := List.mem_of_getElem? this
          have hc : sl.contains (some k) = true := List.contains_iff_mem.mpr hm
          rw [hc] at nd
          simp at nd
      rw [putX_out hn, List.getElem?_set_self hl]
    · cases q : ixS sl i with
      | none => rw [q] at h1; cases h1
      | some m =>
        rw [q] at h1
        cases h1
        simp only [putX]
        exact putX_in nd.2 q (by simpa using h2) (by simpa using hl)
/-- the objects handed on are there -/
@[simp] def hasX (e : En) (sl : List (Option Nat)) : Bool := sl.all fun s => match s with
  | none => true
  | some i => match e[i]? with
    | some (some _) => true
    | _ => false
theorem hasX_def {e : En} {sl : List (Option Nat)} (h : hasX e sl = true) : ∀ i, i ∈ sl.filterMap id → ∃ d, e[i]? = some (some d) := fun i hi => by
  obtain ⟨s, hs, q⟩ := List.mem_filterMap.mp hi
  have q : s = some i := q
  subst q
  have := List.all_eq_true.mp h _ hs
  simp only at this
  split at this
  · rename_i d e1
    exact ⟨d, e1⟩
  · cases this
@[simp] def sDo (Φ : List D → COut) (sl : List (Option Nat)) (e : En) (ds : List D) : Out D := match Φ (fillX e sl ds) with
  | .ok d xs => .ok d (putX e sl xs)
  | .raise c xs => .raise c (putX e sl xs)
  | .stuck => .stuck
@[simp] def sCallF (Φ : List D → COut) (sl : List (Option Nat)) (f : En → Out (List D)) : En → Out D := fun e => (f e).bind fun ds e1 => if hasX e1 sl = true then sDo Φ sl e1 ds else .stuck

section
variable {Γ : Cy} {F F1 : Fp} {H H1 : Hp} {σ : L2.St}
theorem XOk.trk {C : Addr} {fp : List Addr} {d : D} {v : V} (h : XOk C H fp d v) : ∀ b ∈ fp, ∃ o, H b = some o ∧ Mut (some o) := by
  cases d with
  | town k =>
    obtain ⟨a, e1, rfl, e3⟩ := h
    intro b hb
    have e : b = a := by simpa using hb
    subst e
    exact ⟨_, e3, trivial⟩
  | dct k =>
    obtain ⟨a, e1, rfl, e3⟩ := h
    intro b hb
    have e : b = a := by simpa using hb
    subst e
    exact ⟨_, e3, trivial⟩
  | cut x y gone kept =>
    obtain ⟨p, dx, l, t, e1, rfl, e3, e4, e5, e6, e7, e8, e9⟩ := h
    intro b hb
    have e : b = p ∨ b = l := by simpa using hb
    rcases e with rfl | rfl
    · exact ⟨_, e7, trivial⟩
    · exact ⟨_, e9, trivial⟩
  | _ => exact h.elim
/-- an object whose own places are kept, and all that can't change -/
theorem XOk.stay {C : Addr} {fp : List Addr} {d : D} {v : V} (h : XOk C H fp d v) (k : ∀ b ∈ fp, ∀ o, H b = some o → H1 b = some o) (k2 : ∀ b o, H b = some o → ¬ Mut (some o) → H1 b = some o) : XOk C H1 fp d v := by
  cases d with
  | town n =>
    obtain ⟨a, e1, rfl, e3⟩ := h
    exact ⟨a, e1, rfl, k a (by simp) _ e3⟩
  | dct n =>
    obtain ⟨a, e1, rfl, e3⟩ := h
    exact ⟨a, e1, rfl, k a (by simp) _ e3⟩
  | cut x y gone kept =>
    obtain ⟨p, dx, l, t, e1, rfl, e3, e4, e5, e6, e7, e8, e9⟩ := h
    exact ⟨p, dx, l, t, e1, rfl, e3, e4, e5, k2 _ _ e6 (fun z => z), k p (by simp) _ e7, Rd.go (fun b u e => k2 _ _ e (fun z => fz_not u z)) e8, k l (by simp) _ e9⟩
  | _ => exact h.elim
/-- a slot that the calls did not touch -/
theorem SlotOk.go {i : Nat} {d : D} {v : V} (h : SlotOk Γ F H i d v) (g : Go Γ F H F1 H1) (e : F1 i = F i) (k : i ∈ Γ.X → ∀ b ∈ F i, ∀ o, H b = some o → H1 b = some o) (dj : ∀ i j b, i ≠ j → b ∈ F i → b ∉ F j) : SlotOk Γ F1 H1 i d v := by
  unfold SlotOk at h ⊢
  split
  · rename_i hx
    rw [if_pos hx] at h
    rw [e]
    exact h.stay (k hx) fun b o q nm => g.keep b o q fun m => absurd m nm
  · rename_i hx
    rw [if_neg hx] at h
    split
    · rename_i hm
      rw [if_pos hm] at h
      obtain ⟨ds, a, xs, e1, e2, e3, e4, e5⟩ := h
      refine ⟨ds, a, xs, e1, e2, e.trans e3, g.keep a _ e4 fun _ j hj hb => ?_, g.repsA e5⟩
      refine dj i j a ?_ (by rw [e3]; simp) hb
      rintro rfl
      exact hx hj
    · rename_i hm
      rw [if_neg hm] at h
      exact g.repA h
end

section
variable {X : Cx} {Γ : Cy} {W : WX} {pos : Pos} {e : Expr} {es : List Expr} {k : Fk} {sl : List (Option Nat)} {f : En → Out D} {g : En → Out (List D)}
theorem gc_nil : GC X Γ W [] [] sNil := ⟨PA.weak pa_nil fun _ _ _ ⟨_, _, _, ok, h⟩ => h.here ok _ trivial⟩
theorem gc_cons (h1 : GE X Γ W e k f) (h2 : GC X Γ W es sl g) (hs : starEach (e :: es) X.env = (false, eval e X.env) :: starEach es X.env := by rfl) : GC X Γ W (e :: es) (none :: sl) (sCons f g) := by
  refine ⟨PA.weak (pa_cons h1.pe h2.pa hs) ?_⟩
  rintro σ H Q ⟨B, F, env, ok, h⟩
  refine ⟨B, F, env, ok, oE.imp (oE.bind h) fun x e1 H1 F1 _ _ ⟨ok1, g1, q1⟩ u ru => ?_⟩
  refine ⟨B, F1, e1, ok1, oE.imp (oE.bind q1) fun ds e2 H2 F2 _ _ ⟨ok2, g2, q2⟩ vs rv => ?_⟩
  exact q2.here ok2 _ ⟨g2.rep ru.x, rv⟩
theorem gc_x {x : Str} (i : Nat) (h2 : GC X Γ W es sl g) (hx : i ∈ Γ.X := by (try dsimp only); decide) (hs : starEach (.Name x pos :: es) X.env = (false, eval (.Name x pos) X.env) :: starEach es X.env := by rfl)
    (hN : X.N[i]? = some x := by rfl) (hv : Vis X.env.scope x := by first | exact Or.inl rfl | exact Or.inr (Or.inl rfl) | exact Or.inr (Or.inr rfl)) (hd : (x == ("__debug__" : Str)) = false := by decide)
    (hcd : (x == ("__classdict__" : Str)) = false := by decide) : GC X Γ W (.Name x pos :: es) (some i :: sl) (sConsX i g) := by
  refine ⟨PA.weak (pa_cons (pe_var hN hv hd hcd) h2.pa hs) ?_⟩
  rintro σ H Q ⟨B, F, env, ok, h⟩
  unfold sConsX at h
  split at h
  · rename_i d e1
    obtain ⟨v, hv1, _⟩ := ok.slot i d e1
    refine ⟨v, hv1, B, F, env, ok, oE.imp (oE.bind h) fun ds e2 H2 F2 _ _ ⟨ok2, g2, q2⟩ vs rv => ?_⟩
    exact q2.here ok2 _ ⟨hx, hv1, rv⟩
  · exact h.elim

theorem mem_xmS {j : Nat} : j ∈ xmS sl ↔ ∃ i, sl[j]? = some (some i) := by
  unfold xmS
  rw [List.mem_filter, List.mem_range]
  constructor
  · rintro ⟨h1, h2⟩
    have e : sl[j]? = some sl[j] := by simp [h1]
    rw [List.getD_eq_getElem?_getD, e] at h2
    cases q : sl[j] with
    | none => rw [q] at h2; simp at h2
    | some i => exact ⟨i, by rw [e, q]⟩
  · rintro ⟨i, h⟩
    obtain ⟨h1, h2⟩ := List.getElem?_eq_some_iff.mp h
    refine ⟨h1, ?_⟩
    rw [List.getD_eq_getElem?_getD, h]
    rfl

/-- the step of a call, from the arguments to what follows -/
theorem call_step {B : Base} {F : Fp} {σ : L2.St} {H : Hp} {env : En} {ds : List D} {vs : List V} {Φ : List D → COut} {n : Nat} {Q : VK} (hnd : ndS sl = true) (hn : n = sl.length) (ok : StOk Γ B F σ H env) (ca : CArgs Γ F H σ sl ds vs)
    (h : oE Γ W B F σ H (match Φ (fillX env sl ds) with
      | .ok d xs => .ok d (putX env sl xs)
      | .raise c xs => .raise c (putX env sl xs)
      | .stuck => .stuck) fun d _ H' F' => ∀ v, Rep H' (Lf H F') d v → Q v H')
    (hdef : ∀ i ∈ Γ.X, i ∈ sl.filterMap id → ∃ d, env[i]? = some (some d)) : spD Γ.C Γ.exc n (xmS sl) Φ vs H Q (fun cls d H' => W cls d σ H') := by
  obtain ⟨l1, l2, ca⟩ := ca.get
  have lf := fillX_length (e := env) l1
  let Fc : Fp := fun j => match sl[j]? with
    | some (some i) => F i
    | _ => []
  have Fc_some : ∀ {j i : Nat}, sl[j]? = some (some i) → Fc j = F i := fun {j i} e => by
    show (match sl[j]? with | some (some i) => F i | _ => []) = F i
    rw [e]
  have inX : ∀ {j i : Nat}, sl[j]? = some (some i) → i ∈ Γ.X ∧ ∃ v, vs[j]? = some v ∧ σ[i]? = some (some v) := fun {j i} e => by
    obtain ⟨d, v, _, e2, z⟩ := ca j _ e
    rcases z with ⟨z, _⟩ | ⟨i', z, z2, z3⟩
    · cases z
    · cases z
      exact ⟨z2, v, e2, z3⟩
  have Fc_mem : ∀ {j b : Nat}, b ∈ Fc j → ∃ i, sl[j]? = some (some i) ∧ b ∈ F i := fun {j b} hb => by
    have hb' : b ∈ (match sl[j]? with | some (some i) => F i | _ => []) := hb
    split at hb'
    · rename_i i e
      exact ⟨i, e, hb'⟩
    · cases hb'
  have Fc_la : ∀ {a : Addr}, Lx Γ F a → La Fc a := fun {a} l j hb => by
    obtain ⟨i, e, hb⟩ := Fc_mem hb
    exact l i (inX e).1 hb
  have args : XArgs Γ.C (xmS sl) (fillX env sl ds) vs H Fc := by
    refine ⟨by rw [lf, l2], fun j d e => ?_, fun j j' b hne hb hb' => ?_, fun j hj => ?_, fun j hj => ?_⟩
    · have hj : j < sl.length := by rw [← lf]; exact (List.getElem?_eq_some_iff.mp e).1
      obtain ⟨d0, v, e1, e2, z⟩ := ca j sl[j] (by simp [hj])
      have es : sl[j]? = some sl[j] := by simp [hj]
      have ef := fillX_get (e := env) es e1
      rw [e] at ef
      refine ⟨v, e2, ?_⟩
      rcases z with ⟨z, r⟩ | ⟨i, z, z2, z3⟩
      · rw [if_neg (fun hm => by obtain ⟨i, q⟩ := mem_xmS.mp hm; rw [es, z] at q; cases q)]
        rw [z] at ef
        cases ef
        exact r.imp (fun _ _ q => q) fun _ _ q l => ⟨q, Fc_la l⟩
      · have es' : sl[j]? = some (some i) := by rw [es, z]
        rw [if_pos (mem_xmS.mpr ⟨i, es'⟩), Fc_some es']
        obtain ⟨d1, ed⟩ := hdef i z2 (List.mem_filterMap.mpr ⟨some i, List.mem_of_getElem? es', rfl⟩)
        rw [z] at ef
        simp only [ed] at ef
        cases ef
        obtain ⟨v', ev, so⟩ := ok.slot i d ed
        rw [z3] at ev
        cases ev
        unfold SlotOk at so
        rw [if_pos z2] at so
        exact so
    · obtain ⟨i, e1, hb⟩ := Fc_mem hb
      obtain ⟨i', e2, hb'⟩ := Fc_mem hb'
      refine ok.disj i i' b ?_ hb hb'
      rintro rfl
      have q1 := ndS_ix hnd j i e1
      have q2 := ndS_ix hnd j' i e2
      rw [q1] at q2
      exact hne (Option.some.inj q2)
    · have hne : ∀ i, sl[j]? ≠ some (some i) := fun i e => hj (mem_xmS.mpr ⟨i, e⟩)
      show (match sl[j]? with | some (some i) => F i | _ => []) = []
      split
      · rename_i i e
        exact absurd e (hne i)
      · rfl
    · obtain ⟨i, e⟩ := mem_xmS.mp hj
      rw [lf]
      exact (List.getElem?_eq_some_iff.mp e).1
  -- what a return of the callee gives
  have back : ∀ {xs : List D} {H' : Hp} {F' : Fp}, Go (gc Γ.C Γ.exc (xmS sl)) Fc H F' H' → XBack Γ.C (xmS sl) vs H xs H' Fc F' → ∃ F2 : Fp, StOk Γ B F2 σ H' (putX env sl xs) ∧ Go Γ F H F2 H' ∧ ∀ a, Lf H F' a → H a = none → Lf H F2 a := by
    intro xs H' F' gg bk
    let F2 : Fp := fun i => match ixS sl i with
      | some j => F' j
      | none => F i
    have F2_in : ∀ {i j : Nat}, ixS sl i = some j → F2 i = F' j := fun {i j} e => by
      show (match ixS sl i with | some j => F' j | none => F i) = F' j
      rw [e]
    have F2_out : ∀ {i : Nat}, ixS sl i = none → F2 i = F i := fun {i} e => by
      show (match ixS sl i with | some j => F' j | none => F i) = F i
      rw [e]
    have F'_mem : ∀ {j b : Nat}, b ∈ F' j → (∃ j' i, sl[j']? = some (some i) ∧ b ∈ F i) ∨ H b = none := fun {j b} hb => by
      have hj : j ∈ xmS sl := by
        by_cases hj : j ∈ xmS sl
        · exact hj
        · rw [bk.emp j hj] at hb; cases hb
      rcases gg.grow j hj b hb with ⟨j', hj', z⟩ | z
      · obtain ⟨i, e, z⟩ := Fc_mem z
        exact .inl ⟨j', i, e, z⟩
      · exact .inr z
    have kp : ∀ b o, H b = some o → (Mut (some o) → ∀ j i, sl[j]? = some (some i) → b ∉ F i) → H' b = some o := fun b o e n => gg.keep b o e fun m j hj hb => by
      obtain ⟨i, e1, hb⟩ := Fc_mem hb
      exact n m j i e1 hb
    have hgo : Go Γ F H F2 H' := by
      refine ⟨fun b o e n => kp b o e fun m j i e1 => n m i (inX e1).1, gg.dom, fun i hi => ?_, fun i hi b hb => ?_⟩
      · cases q : ixS sl i with
        | none => exact F2_out q
        | some j => exact absurd (inX (ixS_some q)).1 hi
      · cases q : ixS sl i with
        | none => rw [F2_out q] at hb; exact .inl ⟨i, hi, hb⟩
        | some j =>
          rw [F2_in q] at hb
          rcases F'_mem hb with ⟨j', i', e, z⟩ | z
          · exact .inl ⟨i', (inX e).1, z⟩
          · exact .inr z
    refine ⟨F2, ⟨by rw [putX_length]; exact ok.len, fun b e => gg.dom b (ok.dom b e), fun b o e n => ?_, fun i d e => ?_, fun i i' b hne hb hb' => ?_, fun i b hb => ?_, fun i b hb => ?_, fun p hp => ?_, fun p hp _ => ?_, fun b e => gg.dom b (ok.entD b e), fun i hi b hb => ?_, ok.xvx, ok.newv⟩, hgo, fun a l hn => ⟨hn, fun i hb => ?_⟩⟩
    · refine kp b o (ok.keep b o e n) fun m j i e1 hb => ?_
      rcases ok.orig i b hb with z | z
      · exact n m z
      · rw [e] at z; cases z
    · cases q : ixS sl i with
      | none =>
        rw [putX_out q] at e
        obtain ⟨v, e1, so⟩ := ok.slot i d e
        refine ⟨v, e1, so.go hgo (F2_out q) (fun _ b hb o eb => kp b o eb fun _ j i' e2 hb' => ?_) ok.disj⟩
        refine ok.disj i i' b ?_ hb hb'
        rintro rfl
        exact ixS_none q j e2
      | some j =>
        have ej := ixS_some q
        have hm : j ∈ xmS sl := mem_xmS.mpr ⟨i, ej⟩
        obtain ⟨d', v', ed, ev, xo⟩ := bk.x j hm
        have hil : i < env.length := by
          rw [← putX_length (sl := sl) (ds := xs)]
          exact (List.getElem?_eq_some_iff.mp e).1
        rw [putX_in hnd q ed hil] at e
        cases e
        obtain ⟨iX, v, e2, e3⟩ := inX ej
        rw [ev] at e2
        cases e2
        refine ⟨v', e3, ?_⟩
        unfold SlotOk
        rw [if_pos iX, F2_in q]
        exact xo
    · cases q : ixS sl i with
      | some j =>
        rw [F2_in q] at hb
        cases q' : ixS sl i' with
        | some j' =>
          rw [F2_in q'] at hb'
          refine bk.disj j j' b ?_ hb hb'
          rintro rfl
          have := ixS_some q
          rw [ixS_some q'] at this
          exact hne (Option.some.inj (Option.some.inj this)).symm
        | none =>
          rw [F2_out q'] at hb'
          rcases F'_mem hb with ⟨j2, i2, e, z⟩ | z
          · refine ok.disj i2 i' b ?_ z hb'
            rintro rfl
            exact ixS_none q' j2 e
          · obtain ⟨o, eo, _⟩ := ok.trk i' b hb'
            rw [z] at eo; cases eo
      | none =>
        rw [F2_out q] at hb
        cases q' : ixS sl i' with
        | some j' =>
          rw [F2_in q'] at hb'
          rcases F'_mem hb' with ⟨j2, i2, e, z⟩ | z
          · refine ok.disj i2 i b ?_ z hb
            rintro rfl
            exact ixS_none q j2 e
          · obtain ⟨o, eo, _⟩ := ok.trk i b hb
            rw [z] at eo; cases eo
        | none =>
          rw [F2_out q'] at hb'
          exact ok.disj i i' b hne hb hb'
    · cases q : ixS sl i with
      | none => rw [F2_out q] at hb; exact ok.orig i b hb
      | some j =>
        rw [F2_in q] at hb
        rcases F'_mem hb with ⟨j2, i2, e, z⟩ | z
        · exact ok.orig i2 b z
        · right
          cases q2 : B.H b with
          | none => rfl
          | some o => exact absurd z (ok.dom b (by rw [q2]; simp))
    · cases q : ixS sl i with
      | none =>
        rw [F2_out q] at hb
        obtain ⟨o, eo, m⟩ := ok.trk i b hb
        refine ⟨o, kp b o eo fun _ j i' e2 hb' => ?_, m⟩
        refine ok.disj i i' b ?_ hb hb'
        rintro rfl
        exact ixS_none q j e2
      | some j =>
        rw [F2_in q] at hb
        obtain ⟨d', v', ed, ev, xo⟩ := bk.x j (mem_xmS.mpr ⟨i, ixS_some q⟩)
        exact xo.trk b hb
    · exact ok.xval p hp
    · obtain ⟨d, h3⟩ := ok.xdef p hp ‹_›
      cases q : ixS sl p.1 with
      | none => exact ⟨d, by rw [putX_out q]; exact h3⟩
      | some j =>
        obtain ⟨d', v', ed, ev, xo⟩ := bk.x j (mem_xmS.mpr ⟨p.1, ixS_some q⟩)
        exact ⟨d', putX_in hnd q ed (List.getElem?_eq_some_iff.mp h3).1⟩
    · cases q : ixS sl i with
      | some j => exact absurd (inX (ixS_some q)).1 hi
      | none =>
        rw [F2_out q] at hb
        exact ok.entF i hi b hb
    · cases q : ixS sl i with
      | some j => rw [F2_in q] at hb; exact l.2 j hb
      | none =>
        rw [F2_out q] at hb
        obtain ⟨o, eo, _⟩ := ok.trk i a hb
        rw [hn] at eo; cases eo
  refine ⟨fillX env sl ds, Fc, by rw [lf, hn], args, ?_⟩
  cases q : Φ (fillX env sl ds) with
  | stuck => rw [q] at h; exact h.elim
  | ok d xs =>
    rw [q] at h
    intro v H' F' gg bk r
    obtain ⟨F2, ok2, g2, l2⟩ := back gg bk
    exact h H' F2 ok2 g2 v (r.imp (fun _ _ e => e) fun a _ e l => ⟨e, l2 a l l.1⟩)
  | raise c xs =>
    rw [q] at h
    intro H' F' gg bk
    obtain ⟨F2, ok2, g2, l2⟩ := back gg bk
    exact h H' F2 ok2 g2

/-- a def of the module that keeps its promise -/
structure FnD (P : Program) (w : World) (K : PySem.W.Frag) (mg : Str → Option Value) (base : Heap) (C : Addr) (exc : Nat → Addr) (x : Str) (kk n : Nat) (xm : List Nat) (Φ : List D → COut) : Prop where
  ex : ∃ fa fd ps, FnOk P w K mg base (L2.CX P w) kk fa fd ps (spD C exc n xm Φ) ∧ mg x = some (.ref fa) ∧ PySem.W.keepIn K (.ref fa) = true ∧ Binds K fd ps []
variable {Φ : List D → COut} {kk n : Nat} {xm : List Nat} {x : Str} {p : Pos}
theorem ge_call (Dd : FnD X.prog X.w X.K X.mg X.base Γ.C Γ.exc x kk n xm Φ) (hr : Room kk X.A) (tk : Takes X W) (ha : GC X Γ W (e :: es) sl g) (hxm : xm = xmS sl := by rfl) (hn : n = sl.length := by rfl) (hnd : ndS sl = true := by rfl) (hg : Gl X x := by rfl)
    (hdb : (x == ("__debug__" : Str)) = false := by decide) (he : starEach (e :: es) X.env = (false, eval e X.env) :: starEach es X.env := by rfl) (hpl : (backTo pos (starEach es X.env)).any (·.1) = false := by rfl) :
    GE X Γ W (.Call (.Name x p) (e :: es) [] pos) .all (sCallF Φ sl g) := by
  obtain ⟨fa, fd, ps, Fn, hm, hk, hb⟩ := Dd.ex
  subst hxm
  refine ⟨PE.weak (pe_callS (E := fun σ => WE W σ) Fn hr hg hm hk hb (fun σ => passAt tk σ) ha.pa hdb he hpl) ?_⟩
  rintro σ H Q ⟨B, F, env, ok, h⟩
  refine ⟨B, F, env, ok, oE.imp (oE.bind h) fun ds e1 H1 F1 _ _ ⟨ok1, g1, q1⟩ vs rv => ?_⟩
  split at q1
  · rename_i hx
    refine call_step (W := W) hnd hn ok1 rv (oE.imp q1 fun d e2 H2 F2 _ _ q v r => q v ?_) fun i _ hi => hasX_def hx i hi
    exact RepK.early (k := .all) g1 r
  · exact q1.elim
theorem ge_call0 (Dd : FnD X.prog X.w X.K X.mg X.base Γ.C Γ.exc x kk 0 [] Φ) (hr : Room kk X.A) (tk : Takes X W) (hg : Gl X x := by rfl)
    (hdb : (x == ("__debug__" : Str)) = false := by decide) : GE X Γ W (.Call (.Name x p) [] [] pos) .all (sCallF Φ [] sNil) := by
  obtain ⟨fa, fd, ps, Fn, hm, hk, hb⟩ := Dd.ex
  refine ⟨⟨fun pins s σ H Q I ⟨B, F, env, ok, h⟩ => ?_⟩⟩
  refine PySem.wpAny_Call_Name_kw (ld_glob I hg hm ?_ hdb)
  have hsp : spD Γ.C Γ.exc 0 [] Φ [] H Q (fun cls d H' => W cls d σ H') := by
    have h' : oE Γ W B F σ H (sDo Φ [] env []) fun d _ H' F' => ∀ v, RepK Γ .all H F' H' d v → Q v H' := h
    exact call_step (sl := []) (W := W) rfl rfl ok (ds := []) (vs := []) trivial h' fun i _ hi => by simp at hi
  exact PySem.W.callWith_K0 I.kIn hk (run_fnS (us := []) (E := fun σ => WE W σ) Fn hr hb (passAt tk σ) I .nil hsp)
end
end Ev

set_option Elab.async false
set_option linter.all false
set_option maxRecDepth 100000
set_option maxHeartbeats 4000000
/-! Ev6: what is walked; targets; comprehensions. -/
namespace Ev
open PySem L2

/-! ### slots set and forgotten -/
@[simp] def wipeE (e : En) : List Nat → En
  | [] => e
  | v :: vs => (wipeE e vs).set v none
/-- the slots vs as they stood in e0 -/
@[simp] def restE (e0 e : En) : List Nat → En
  | [] => e
  | v :: vs => (restE e0 e vs).set v (e0.getD v none)
theorem wipeE_length {e : En} : ∀ {vs : List Nat}, (wipeE e vs).length = e.length
  | [] => rfl
  | v :: vs => by unfold wipeE; rw [List.length_set, wipeE_length]
theorem restE_length {e0 e : En} : ∀ {vs : List Nat}, (restE e0 e vs).length = e.length
  | [] => rfl
  | v :: vs => by unfold restE; rw [List.length_set, restE_length]
theorem wipeE_some {e : En} {i : Nat} {d : D} : ∀ {vs : List Nat}, (wipeE e vs)[i]? = some (some d) → e[i]? = some (some d) ∧ i ∉ vs
  | [], h => ⟨h, by simp⟩
  | v :: vs, h => by
    unfold wipeE at h
    by_cases hi : v = i
    · subst hi
      by_cases hv : v < (wipeE e vs).length
      · rw [List.getElem?_set_self hv] at h; cases h
      · rw [List.getElem?_eq_none (by simpa using hv)] at h; cases h
    · rw [List.getElem?_set_ne hi] at h
      obtain ⟨h1, h2⟩ := wipeE_some h
      exact ⟨h1, by simp only [List.mem_cons, not_or]; exact ⟨fun e => hi e.symm, h2⟩⟩
theorem wipeE_out {e : En} {i : Nat} : ∀ {vs : List Nat}, i ∉ vs → (wipeE e vs)[i]? = e[i]?
  | [], _ => rfl
  | v :: vs, h => by
    simp only [List.mem_cons, not_or] at h
    unfold wipeE
    rw [List.getElem?_set_ne (fun z => h.1 z.symm)]
    exact wipeE_out h.2
theorem restE_out {e0 e : En} {i : Nat} : ∀ {vs : List Nat}, i ∉ vs → (restE e0 e vs)[i]? = e[i]?
  | [], _ => rfl
  | v :: vs, h => by
    simp only [List.mem_cons, not_or] at h
    unfold restE
    rw [List.getElem?_set_ne (fun z => h.1 z.symm)]
    exact restE_out h.2
theorem restE_in {e0 e : En} {i : Nat} {d : D} : ∀ {vs : List Nat}, i ∈ vs → (restE e0 e vs)[i]? = some (some d) → e0[i]? = some (some d)
  | v :: vs, h, q => by
    unfold restE at q
    by_cases hi : v = i
    · subst hi
      by_cases hv : v < (restE e0 e vs).length
      · rw [List.getElem?_set_self hv, List.getD_eq_getElem?_getD] at q
        cases z : e0[v]? with
        | none => rw [z] at q; cases q
        | some o => rw [z] at q; exact q
      · rw [List.getElem?_eq_none (by simpa using hv)] at q; cases q
    · rw [List.getElem?_set_ne hi] at q
      exact restE_in ((List.mem_cons.mp h).resolve_left fun z => hi z.symm) q
theorem wipe_set_in {σ : L2.St} {i : Nat} {o : Option V} : ∀ {vs : List Nat}, i ∈ vs → wipe (σ.set i o) vs = wipe σ vs
  | v :: vs, h => by
    unfold wipe
    by_cases hi : i ∈ vs
    · rw [wipe_set_in hi]
    · have e : i = v := (List.mem_cons.mp h).resolve_right hi
      subst e
      have : ∀ {vs : List Nat}, i ∉ vs → wipe (σ.set i o) vs = (wipe σ vs).set i o := fun {vs} h => by
        induction vs with
        | nil => rfl
        | cons u us ih =>
          simp only [List.mem_cons, not_or] at h
          unfold wipe
          rw [ih h.2, List.set_comm _ _ h.1]
      rw [this hi, List.set_set]
theorem wipe_eq_out {σ σ' : L2.St} {vs : List Nat} (h : wipe σ' vs = wipe σ vs) {i : Nat} (hi : i ∉ vs) : σ'[i]? = σ[i]? := by
  rw [← wipe_out (σ := σ') hi, h, wipe_out hi]
theorem wipe_eq_length {σ σ' : L2.St} {vs : List Nat} (h : wipe σ' vs = wipe σ vs) : σ'.length = σ.length := by
  have := congrArg List.length h
  rwa [wipe_length, wipe_length] at this

section
variable {Γ : Cy} {B : Base} {F : Fp} {σ : L2.St} {H : Hp} {env : En}
theorem StOk.wipe (ok : StOk Γ B F σ H env) {vs : List Nat} (hx : ∀ i ∈ vs, i ∉ Γ.X) (hp : ∀ i ∈ vs, i ∉ Γ.P) : StOk Γ B F (wipe σ vs) H (wipeE env vs) where
  len := by rw [wipe_length, wipeE_length]; exact ok.len
  dom := ok.dom
  keep := ok.keep
  slot := fun i d e => by
    obtain ⟨e1, hi⟩ := wipeE_some e
    obtain ⟨v, h1, h2⟩ := ok.slot i d e1
    exact ⟨v, by rw [wipe_out hi]; exact h1, h2⟩
  disj := ok.disj
  orig := ok.orig
  trk := ok.trk
  xval := fun p hp' => by
    obtain ⟨h1, h2⟩ := ok.xval p hp'
    refine ⟨h1, ?_⟩
    rw [wipe_out]
    · exact h2
    · intro hm
      rcases h1 with h1 | h1
      · exact hx _ hm h1
      · exact hp _ hm h1
  xdef := fun p hp' hX => by
    obtain ⟨d, h⟩ := ok.xdef p hp' hX
    exact ⟨d, by rw [wipeE_out fun hm => hx _ hm hX]; exact h⟩
  entD := ok.entD
  entF := ok.entF
  xvx := ok.xvx
  newv := fun i hi a e => ok.newv i hi a (by rwa [wipe_out (fun hm => hp i hm hi)] at e)
/-- a slot's value set -/
theorem StOk.set (ok : StOk Γ B F σ H env) {i : Nat} {d : D} {v : V} (hx : i ∉ Γ.X) (hm : i ∉ Γ.M) (hp : i ∉ Γ.P) (r : Rep H (La F) d v) : StOk Γ B F (σ.set i (some v)) H (env.set i (some d)) where
  len := by rw [List.length_set, List.length_set]; exact ok.len
  dom := ok.dom
  keep := ok.keep
  slot := fun j d' e => by
    by_cases hj : i = j
    · subst hj
      have hl : i < env.length := by
        have := (List.getElem?_eq_some_iff.mp e).1
        rwa [List.length_set] at this
      rw [List.getElem?_set_self hl] at e
      cases e
      refine ⟨v, List.getElem?_set_self (by rw [ok.len]; exact hl), ?_⟩
      unfold SlotOk
      rw [if_neg hx, if_neg hm]
      exact r
    · rw [List.getElem?_set_ne hj] at e
      obtain ⟨w, h1, h2⟩ := ok.slot j d' e
      exact ⟨w, by rw [List.getElem?_set_ne hj]; exact h1, h2⟩
  disj := ok.disj
  orig := ok.orig
  trk := ok.trk
  xval := fun p hp' => by
    obtain ⟨h1, h2⟩ := ok.xval p hp'
    refine ⟨h1, ?_⟩
    rw [List.getElem?_set_ne]
    · exact h2
    · rintro rfl
      rcases h1 with h1 | h1
      · exact hx h1
      · exact hp h1
  xdef := fun p hp' hX => by
    obtain ⟨d', h⟩ := ok.xdef p hp' hX
    refine ⟨d', ?_⟩
    rw [List.getElem?_set_ne]
    · exact h
    · rintro rfl
      exact hx hX
  entD := ok.entD
  entF := ok.entF
  xvx := ok.xvx
  newv := fun j hj a e => ok.newv j hj a (by rwa [List.getElem?_set_ne (fun z => hp (by rw [z]; exact hj))] at e)
end

/-! ### what is walked -/
def KeepS (st : Bool) (Γ : Cy) (F : Fp) (H H1 : Hp) : Prop := ∀ b o, H b = some o → (Mut (some o) → if st = true then ∀ j, b ∉ F j else ∀ j ∈ Γ.X, b ∉ F j) → H1 b = some o
def Li (F : Fp) (H : Hp) : Addr → Prop := fun a => (∃ o, H a = some o) ∧ La F a
def tI (Γ : Cy) (W : WX) (st : Bool) (f : En → Out (List D)) : TI := fun σ H R => ∃ B F env, StOk Γ B F σ H env ∧
  oE Γ W B F σ H (f env) fun ds _ H' F' => ∀ (J : It) (G : Hp → Prop) (Y : Nat → Hp → V → Hp → Prop), Walk J ds.length G Y → (∀ H1, KeepS st Γ F' H' H1 → G H1) →
    (∀ i H1 x H2, i < ds.length → KeepS st Γ F' H' H1 → Y i H1 x H2 → Same H1 H2 ∧ ∃ d, ds[i]? = some d ∧ Rep H2 (Li F' H') d x) → R J H'
structure GI (X : Cx) (Γ : Cy) (W : WX) (tg iter : Expr) (st : Bool) (f : En → Out (List D)) : Prop where
  pi : PI X tg iter (tI Γ W st f)
theorem PI.weak {X : Cx} {tg e : Expr} {t t' : TI} (h : PI X tg e t) (w : ∀ σ H R, t' σ H R → t σ H R) : PI X tg e t' := ⟨fun pins s σ H R I q => h.run pins s σ H R I (w σ H R q)⟩
section
variable {Γ : Cy} {F : Fp} {H H1 : Hp} {st : Bool}
theorem KeepS.la (k : KeepS st Γ F H H1) {a : Addr} {o : HO} (e : H a = some o) (l : La F a) : H1 a = some o := k a o e fun _ => by
  split
  · exact l
  · exact fun j _ => l j
theorem KeepS.tup (k : KeepS st Γ F H H1) {a : Addr} {xs : FzO} (e : H a = some xs.1) : H1 a = some xs.1 := k a _ e fun m => (fz_not xs m).elim
theorem KeepS.tup1 (k : KeepS st Γ F H H1) {a : Addr} {xs : List V} (e : Rd H a (.tup xs)) : Rd H1 a (.tup xs) := Rd.go (fun b u e => k.tup e) e
theorem KeepS.rep (k : KeepS st Γ F H H1) {d : D} {v : V} (r : Rep H (La F) d v) : Rep H1 (Li F H) d v := r.imp (fun a xs e => k.tup e) fun a xs e l => ⟨k.la e l, ⟨_, e⟩, l⟩
theorem KeepS.reps (k : KeepS st Γ F H H1) {d : List D} {v : List V} (r : Reps H (La F) d v) : Reps H1 (Li F H) d v := r.imp (fun a xs e => k.tup e) fun a xs e l => ⟨k.la e l, ⟨_, e⟩, l⟩
end
/-- a list or a tuple -/
def iSeq (K : PySem.W.Frag) (tl : TE) : TI := fun σ H R => tl σ H fun x H1 => ∃ a, x = .ref a ∧ (((∃ xs, SqL K H1 a xs) ∧ R (Itl K a) H1) ∨ ((∃ xs, SqT K H1 a xs) ∧ R (Itt K a) H1))
theorem pi_seq {X : Cx} {tg l : Expr} {tl : TE} (hl : PE X l tl) : PI X tg l (iSeq X.K tl) := by
  refine ⟨fun pins s σ H R I h => ?_⟩
  refine thn (hl.run pins s σ H _ I h) fun v s1 ⟨x, H1, I1, r1, q1⟩ => ?_
  obtain ⟨a, e, q⟩ := q1
  subst e
  cases r1
  rcases q with ⟨⟨xs, hq⟩, q⟩ | ⟨⟨xs, hq⟩, q⟩
  · obtain ⟨its, rv, p, hz⟩ := I1.list hq
    refine wpAny_pyIter_list p.isList ?_
    refine ⟨s1.heap.objs.size, [s1.heap.objs.size], _, _, H1, rfl, I1.kept (t' := s1.toks) fun b o e => Heap.get?_push_of_some _ e, turn_list a _, ⟨_, Heap.get?_push_size _ rfl, rfl, rfl⟩, fun b hb => ?_, q⟩
    have e : b = s1.heap.objs.size := by simpa using hb
    subst e
    exact I1.fpOk (Nat.le_refl _) (I1.hok.fresh (Nat.le_refl _))
  · obtain ⟨its, rv, p, hz⟩ := I1.tuple hq
    refine wpAny_pyIter_tuple (show s1.heap.IsTuple a its.toArray from p) ?_
    refine ⟨s1.heap.objs.size, [s1.heap.objs.size], _, _, H1, rfl, I1.kept (t' := s1.toks) fun b o e => Heap.get?_push_of_some _ e, turn_tuple a _, ⟨_, Heap.get?_push_size _ rfl, rfl, rfl⟩, fun b hb => ?_, q⟩
    have e : b = s1.heap.objs.size := by simpa using hb
    subst e
    exact I1.fpOk (Nat.le_refl _) (I1.hok.fresh (Nat.le_refl _))
@[simp] def itemsOk (k : Fk) (ds : List D) : Bool := match k with
  | .all => true
  | .var => true
  | .mv => true
  | _ => lfrees ds
def stK : Fk → Bool
  | .mv => false
  | .bor => false
  | _ => true
/-- the items of a list or tuple -/
@[simp] def items? : D → Option (List D)
  | .lst ds => some ds
  | .tup ds => some ds
  | _ => none
@[simp] def sSeq (k : Fk) (f : En → Out D) : En → Out (List D) := fun e => (f e).bind fun d e1 => match items? d with
  | some ds => if itemsOk k ds = true then .ok ds e1 else .stuck
  | none => .stuck
/-- a list or tuple whose items are looked at: it stands -/
theorem seq_stands {Γ : Cy} {k : Fk} {Hs H : Hp} {F : Fp} {d : D} {ds : List D} {v : V} (r : RepK Γ k Hs F H d v) (hi : items? d = some ds) (ho : itemsOk k ds = true) :
    ∃ a xs, v = .ref a ∧ Reps H (La F) ds xs ∧ ((H a = some (.lst xs) ∧ ∀ H1, KeepS (stK k) Γ F H H1 → H1 a = some (.lst xs)) ∨ (Rd H a (.tup xs) ∧ ∀ H1, KeepS (stK k) Γ F H H1 → Rd H1 a (.tup xs))) := by
  have li : ∀ {xs : List V}, Reps H (Lx Γ F) ds xs → lfrees ds = true → Reps H (La F) ds xs := fun r f => r.lf f
  cases d with
  | lst es =>
    cases hi
    cases k with
    | all => obtain ⟨a, xs, e, h1, h2, h3⟩ := r; exact ⟨a, xs, e, h3.imp (fun _ _ q => q) fun _ _ q l => ⟨q, l.2⟩, .inl ⟨h1, fun H1 kp => kp a _ h1 fun _ => by rw [if_pos (by decide)]; exact h2.2⟩⟩
    | var => obtain ⟨a, xs, e, h1, h2, h3⟩ := r; exact ⟨a, xs, e, h3, .inl ⟨h1, fun H1 kp => kp a _ h1 fun _ => by rw [if_pos (by decide)]; exact h2⟩⟩
    | out => obtain ⟨a, xs, e, h1, h2, h3⟩ := r; exact ⟨a, xs, e, li h3 ho, .inl ⟨h1, fun H1 kp => kp a _ h1 fun _ => by rw [if_pos (by decide)]; exact h2.2⟩⟩
    | mv => obtain ⟨a, xs, e, h1, h2, h3⟩ := r; exact ⟨a, xs, e, h3, .inl ⟨h1, fun H1 kp => kp a _ h1 fun _ => by rw [if_neg (by decide)]; exact h2⟩⟩
    | bor => obtain ⟨a, xs, e, h1, h2, h3⟩ := r; exact ⟨a, xs, e, li h3 ho, .inl ⟨h1, fun H1 kp => kp a _ h1 fun _ => by rw [if_neg (by decide)]; exact h2⟩⟩
  | tup es =>
    cases hi
    have fin : ∀ {a : Addr} {xs : List V}, v = .ref a → Rd H a (.tup xs) → Reps H (La F) ds xs → ∃ a xs, v = .ref a ∧ Reps H (La F) ds xs ∧ ((H a = some (.lst xs) ∧ ∀ H1, KeepS (stK k) Γ F H H1 → H1 a = some (.lst xs)) ∨ (Rd H a (.tup xs) ∧ ∀ H1, KeepS (stK k) Γ F H H1 → Rd H1 a (.tup xs))) :=
      fun {a xs} e h1 h2 => ⟨a, xs, e, h2, .inr ⟨h1, fun H1 kp => kp.tup1 h1⟩⟩
    cases k with
    | all => obtain ⟨a, xs, e, h1, h3⟩ := r; exact fin e h1 (h3.imp (fun _ _ q => q) fun _ _ q l => ⟨q, l.2⟩)
    | var => obtain ⟨a, xs, e, h1, h3⟩ := r; exact fin e h1 h3
    | out => obtain ⟨a, xs, e, h1, h3⟩ := r; exact fin e h1 (li h3 ho)
    | mv => obtain ⟨a, xs, e, h1, h3⟩ := r; exact fin e h1 h3
    | bor => obtain ⟨a, xs, e, h1, h3⟩ := r; exact fin e h1 (li h3 ho)
  | _ => cases hi
section
variable {X : Cx} {Γ : Cy} {W : WX} {pos p tpos : Pos} {tg e e2 : Expr} {k k2 : Fk} {f f2 : En → Out D} {al : Bool} {g : En → Out (List D)} {elts : List Expr} {kk : Nat}
theorem gi_seq (he : GE X Γ W e k f) : GI X Γ W tg e (stK k) (sSeq k f) := by
  refine ⟨PI.weak (pi_seq he.pe) ?_⟩
  rintro σ H R ⟨B, F, env, ok, h⟩
  refine ⟨B, F, env, ok, oE.imp (oE.bind h) fun d e1 H1 F1 _ _ ⟨ok1, g1, h1⟩ v rv => ?_⟩
  cases q : items? d with
  | none => rw [q] at h1; exact h1.elim
  | some ds =>
    simp only [q] at h1
    split at h1
    · rename_i ho
      obtain ⟨a, xs, rfl, ri, z⟩ := seq_stands rv q ho
      have hl := ri.length
      have R' := h1.here ok1
      have itm : ∀ i H2 x H3, i < ds.length → KeepS (stK k) Γ F1 H1 H2 → YAt xs i H2 x H3 → Same H2 H3 ∧ ∃ d, ds[i]? = some d ∧ Rep H3 (Li F1 H1) d x := fun i H2 x H3 hi kp y => by
        obtain ⟨rfl, hx⟩ := y
        obtain ⟨d', hd, r⟩ := (kp.reps ri).get' hx
        exact ⟨Same.refl _, d', hd, r⟩
      refine ⟨a, rfl, ?_⟩
      rcases z with ⟨hA, st⟩ | ⟨hA, st⟩
      · exact .inl ⟨⟨xs, SqL.of hA⟩, R' (Itl X.K a) (fun H => SqL X.K H a xs) (YAt xs) (hl ▸ walk_list) (fun H2 kp => SqL.of (st H2 kp)) itm⟩
      · exact .inr ⟨⟨xs, SqT.rd hA⟩, R' (Itt X.K a) (fun H => SqT X.K H a xs) (YAt xs) (hl ▸ walk_tup) (fun H2 kp => SqT.rd (st H2 kp)) itm⟩
    · exact h1.elim

def rangeD (lo hi : Int) : List D := (List.range (hi - lo).toNat).map fun i => .int (lo + (i : Nat))
theorem rangeD_length (lo hi : Int) : (rangeD lo hi).length = (hi - lo).toNat := by simp [rangeD]
def rgB (i : Int) : Bool := decide (i.natAbs < 4611686018427387904)
theorem rgB_ok {i : Int} (h : rgB i = true) : -(2 ^ 62) ≤ i ∧ i < 2 ^ 62 := by
  have h := of_decide_eq_true h
  have e : (2 : Int) ^ 62 = 4611686018427387904 := by decide
  rw [e]
  omega
theorem rgB_of {i : Int} (h0 : -4611686018427387904 < i) (h1 : i < 4611686018427387904) : rgB i = true := decide_eq_true (by omega)
@[simp] def int1? : List D → Option Int
  | [.int j] => some j
  | _ => none
@[simp] def int2? : List D → Option (Int × Int)
  | [.int i, .int j] => some (i, j)
  | _ => none
theorem int1?_eq {ds : List D} {j : Int} (h : int1? ds = some j) : ds = [.int j] := by
  unfold int1? at h
  split at h
  · cases h; rfl
  · cases h
theorem int2?_eq {ds : List D} {i j : Int} (h : int2? ds = some (i, j)) : ds = [.int i, .int j] := by
  unfold int2? at h
  split at h
  · cases h; rfl
  · cases h
@[simp] def sRange1 (g : En → Out (List D)) : En → Out (List D) := fun e => (g e).bind fun ds e1 => match int1? ds with
  | some j => if rgB j = true then .ok (rangeD 0 j) e1 else .stuck
  | none => .stuck
@[simp] def sRange2 (g : En → Out (List D)) : En → Out (List D) := fun e => (g e).bind fun ds e1 => match int2? ds with
  | some (i, j) => if (rgB i && rgB j) = true then .ok (rangeD i j) e1 else .stuck
  | none => .stuck
theorem range_item {lo hi : Int} {F : Fp} {H H1 H2 : Hp} {i : Nat} {x : V} (h : i < (rangeD lo hi).length) (y : YFn (fun i => .int (lo + (i : Nat))) i H1 x H2) : Same H1 H2 ∧ ∃ d, (rangeD lo hi)[i]? = some d ∧ Rep H2 (Li F H) d x := by
  obtain ⟨rfl, rfl⟩ := y
  rw [rangeD_length] at h
  refine ⟨Same.refl _, .int (lo + (i : Nat)), ?_, rfl⟩
  unfold rangeD
  rw [List.getElem?_map, List.getElem?_range h]
  rfl
theorem gi_range1 {a : Expr} (ha : GA X Γ W [a] al g) (hm : X.mg "range" = none) (hg : Gl X "range" := by rfl) (hs : starEach [a] X.env = [(false, eval a X.env)] := by rfl) : GI X Γ W tg (.Call (.Name "range" p) [a] [] pos) true (sRange1 g) := by
  refine ⟨PI.weak (pi_range1 hg hm ha.pa hs) ?_⟩
  rintro σ H R ⟨B, F, env, ok, h⟩
  refine ⟨B, F, env, ok, oE.imp (oE.bind h) fun ds e1 H1 F1 _ _ ⟨ok1, g1, h1⟩ vs rv => ?_⟩
  cases q : int1? ds with
  | none => rw [q] at h1; exact h1.elim
  | some j =>
    rw [q] at h1
    cases int1?_eq q
    simp only at h1
    split at h1
    · rename_i hb
      obtain ⟨x, r, rfl, r1, r2⟩ := rv
      cases (show r = [] from r2)
      cases (show x = V.int j from r1)
      obtain ⟨q1, q2⟩ := rgB_ok hb
      refine ⟨j, rfl, q1, q2, h1.here ok1 (Itr 0 j.toNat) (fun _ => True) (YFn fun i => .int (0 + (i : Nat))) ?_ (fun _ _ => trivial) fun i H2 x H3 hi _ y => range_item hi y⟩
      rw [rangeD_length, Int.sub_zero]; exact walk_range
    · exact h1.elim
theorem gi_range2 {a b : Expr} (ha : GA X Γ W [a, b] al g) (hm : X.mg "range" = none) (hg : Gl X "range" := by rfl) (hs : starEach [a, b] X.env = [(false, eval a X.env), (false, eval b X.env)] := by rfl) (hs2 : starEach [b] X.env = [(false, eval b X.env)] := by rfl) :
    GI X Γ W tg (.Call (.Name "range" p) [a, b] [] pos) true (sRange2 g) := by
  refine ⟨PI.weak (pi_range2 hg hm ha.pa hs hs2) ?_⟩
  rintro σ H R ⟨B, F, env, ok, h⟩
  refine ⟨B, F, env, ok, oE.imp (oE.bind h) fun ds e1 H1 F1 _ _ ⟨ok1, g1, h1⟩ vs rv => ?_⟩
  cases q : int2? ds with
  | none => rw [q] at h1; exact h1.elim
  | some ij =>
    obtain ⟨i, j⟩ := ij
    rw [q] at h1
    cases int2?_eq q
    simp only at h1
    split at h1
    · rename_i hb
      rw [Bool.and_eq_true] at hb
      obtain ⟨x, r, rfl, r1, y, r', rfl, r3, r4⟩ := rv
      cases (show r' = [] from r4)
      cases (show x = V.int i from r1)
      cases (show y = V.int j from r3)
      obtain ⟨q1, q2⟩ := rgB_ok hb.1
      obtain ⟨q3, q4⟩ := rgB_ok hb.2
      refine ⟨i, j, rfl, ⟨q1, q2, q3, q4⟩, h1.here ok1 (Itr i (j - i).toNat) (fun _ => True) (YFn fun k => .int (i + (k : Nat))) ?_ (fun _ _ => trivial) fun i H2 x H3 hi _ y => range_item hi y⟩
      rw [rangeD_length]; exact walk_range
    · exact h1.elim

def enumD : Nat → List D → List D
  | _, [] => []
  | i, d :: ds => .tup [.int i, d] :: enumD (i + 1) ds
theorem enumD_length : ∀ {i : Nat} {ds : List D}, (enumD i ds).length = ds.length
  | _, [] => rfl
  | i, d :: ds => by simp [enumD, enumD_length]
theorem enumD_get : ∀ {k i : Nat} {ds : List D} {d : D}, ds[i]? = some d → (enumD k ds)[i]? = some (.tup [.int ((k + i : Nat)), d])
  | _, _, [], _, h => by simp at h
  | k, 0, d :: ds, d', h => by simp at h; subst h; simp [enumD]
  | k, i + 1, d :: ds, d', h => by
    have := enumD_get (k := k + 1) (i := i) (ds := ds) (by simpa using h)
    rw [show k + 1 + i = k + (i + 1) by omega] at this
    simpa [enumD] using this
@[simp] def sEnum (k : Fk) (f : En → Out D) : En → Out (List D) := fun e => (f e).bind fun d e1 => match d with
  | .lst ds => if itemsOk k ds = true then .ok (enumD 0 ds) e1 else .stuck
  | _ => .stuck
/-- a new pair of two things -/
theorem pair_rep {L : Addr → Prop} {H : Hp} {T : Addr} {d1 d2 : D} {x y : V} (hn : H T = none) (r1 : Rep H L d1 x) (r2 : Rep H L d2 y) : Rep (upd H T (.tup [x, y])) L (.tup [d1, d2]) (.ref T) :=
  ⟨T, [x, y], rfl, .inl upd_same, (Reps.cons (r1.same (same_upd hn)) (Reps.one (r2.same (same_upd hn))))⟩
theorem gi_enum (he : GE X Γ W e k f) (hm : X.mg "enumerate" = none) (hg : Gl X "enumerate" := by rfl) (hs : starEach [e] X.env = [(false, eval e X.env)] := by rfl) :
    GI X Γ W (.Tuple elts kk tpos) (.Call (.Name "enumerate" p) [e] [] pos) (stK k) (sEnum k f) := by
  refine ⟨PI.weak (pi_enum hg hm (pa_cons he.pe pa_nil hs) hs) ?_⟩
  rintro σ H R ⟨B, F, env, ok, h⟩
  refine ⟨B, F, env, ok, oE.imp (oE.bind h) fun d e1 H1 F1 _ _ ⟨ok1, g1, h1⟩ v rv => ?_⟩
  cases d with
  | lst ds =>
    simp only at h1
    split at h1
    · rename_i ho
      obtain ⟨a, xs, rfl, ri, z⟩ := seq_stands rv rfl ho
      have hl := ri.length
      have R' := h1.here ok1
      rcases z with ⟨hA, st⟩ | ⟨hA, st⟩
      · refine ⟨a, xs, rfl, SqL.of hA, R' (Ite X.K a) (fun H => SqL X.K H a xs) (YPair (fun i => some (.int (i : Nat))) (fun i => xs[i]?)) (by rw [enumD_length, ← hl]; exact walk_enum) (fun H2 kp => SqL.of (st H2 kp)) fun i H2 x H3 hi kp y => ?_⟩
        obtain ⟨T, u, w, rfl, hn, rfl, e1, e2⟩ := y
        cases e1
        obtain ⟨d', hd, r⟩ := (kp.reps ri).get' e2
        refine ⟨same_upd hn, .tup [.int (i : Nat), d'], ?_, pair_rep hn rfl r⟩
        rw [enumD_get hd, Nat.zero_add]
      · obtain ⟨b, ys, e, hB, _⟩ := rv.lst
        cases e
        rcases hA with hA | ⟨o, hA⟩ <;> (rw [hA] at hB; cases hB)
    · exact h1.elim
  | _ => exact h1.elim

theorem walk_zipT {K : PySem.W.Frag} {a b : Addr} {xs ys : List V} {n : Nat} (hn : n = min xs.length ys.length) : Walk (RZ.ItzT K a b) n (fun H => SqT K H a xs ∧ SqT K H b ys) (YPair (fun i => xs[i]?) (fun i => ys[i]?)) := by
  subst hn
  refine ⟨fun i _ hi q => ?_, fun _ q => ⟨xs, ys, q.1, q.2, by omega⟩, fun i H v H' _ q y => ?_⟩
  · have h1 : i < xs.length := by omega
    have h2 : i < ys.length := by omega
    exact ⟨xs, ys, xs[i], ys[i], q.1, q.2, by simp [h1], by simp [h2]⟩
  · obtain ⟨T, x, z, h1, h2, h3, h4, h5⟩ := y
    exact ⟨T, x, z, h1, h2, h3, h4 xs q.1, h5 ys q.2⟩
def zipD (xs ys : List D) : List D := List.zipWith (fun a b => .tup [a, b]) xs ys
/-- two tuples -/
@[simp] def sZip (k k2 : Fk) (f f2 : En → Out D) : En → Out (List D) := fun e => (f e).bind fun d e1 => (f2 e1).bind fun d2 e2 => match d, d2 with
  | .tup ds, .tup es => if (itemsOk k ds && itemsOk k2 es) = true then .ok (zipD ds es) e2 else .stuck
  | _, _ => .stuck
theorem gi_zip (he : GE X Γ W e k f) (he2 : GE X Γ W e2 k2 f2) (hm : X.mg "zip" = none) (hg : Gl X "zip" := by rfl) (hs : starEach [e, e2] X.env = (false, eval e X.env) :: starEach [e2] X.env := by rfl) (hs2 : starEach [e2] X.env = (false, eval e2 X.env) :: starEach [] X.env := by rfl) (hpl : (backTo pos (starEach [e2] X.env)).any (·.1) = false := by rfl) :
    GI X Γ W (.Tuple elts kk tpos) (.Call (.Name "zip" p) [e, e2] [] pos) true (sZip k k2 f f2) := by
  refine ⟨PI.weak (RZ.pi_zipA hg hm (pa_cons he.pe (pa_cons he2.pe pa_nil hs2) hs) hs hpl) ?_⟩
  rintro σ H R ⟨B, F, env, ok, h⟩
  refine bin_ok (R := fun u v H2 => ∃ a b xs ys, [u, v] = [.ref a, .ref b] ∧ ((SqL X.K H2 a xs ∧ SqL X.K H2 b ys ∧ R (Itz X.K a b) H2) ∨ (SqT X.K H2 a xs ∧ SqT X.K H2 b ys ∧ R (RZ.ItzT X.K a b) H2))) ok h fun x y e2 u v H2 F2 ok2 g2 ru rv h2 => ?_
  split at h2
  · rename_i ds es
    split at h2
    · rename_i ho
      rw [Bool.and_eq_true] at ho
      obtain ⟨a, xs, rfl, ri, z⟩ := seq_stands ru rfl ho.1
      obtain ⟨b, ys, rfl, rj, z2⟩ := seq_stands rv rfl ho.2
      have R' := h2.here ok2
      rcases z with ⟨hA, st⟩ | ⟨hA, st⟩
      · obtain ⟨c, zs, e, hB, _⟩ := ru.tup
        cases e
        rcases hB with hB | ⟨o, hB⟩ <;> (rw [hA] at hB; cases hB)
      rcases z2 with ⟨hB, st2⟩ | ⟨hB, st2⟩
      · obtain ⟨c, zs, e, hC, _⟩ := rv.tup
        cases e
        rcases hC with hC | ⟨o, hC⟩ <;> (rw [hB] at hC; cases hC)
      refine ⟨a, b, xs, ys, rfl, .inr ⟨SqT.rd hA, SqT.rd hB, R' (RZ.ItzT X.K a b) (fun H => SqT X.K H a xs ∧ SqT X.K H b ys) (YPair (fun i => xs[i]?) (fun i => ys[i]?)) ?_ (fun H3 kp => ⟨SqT.rd (kp.tup1 hA), SqT.rd (kp.tup1 hB)⟩) fun i H3 x H4 hi kp y => ?_⟩⟩
      · unfold zipD
        rw [List.length_zipWith, ← ri.length, ← rj.length]
        exact walk_zipT rfl
      · obtain ⟨T, u, w, rfl, hn, rfl, e1, e2⟩ := y
        obtain ⟨d', hd, r⟩ := (kp.reps ri).get' e1
        obtain ⟨d'', hd2, r2⟩ := (kp.reps rj).get' e2
        refine ⟨same_upd hn, .tup [d', d''], ?_, pair_rep hn r r2⟩
        unfold zipD
        rw [List.getElem?_zipWith, hd, hd2]
    · exact h2.elim
  · exact h2.elim
end

/-! ### targets: names and tuples of names; vs the slots -/
def tG (Γ : Cy) (vs : List Nat) (g : D → En → Option En) : TG := fun v σ H Q => ∃ B F env d, StOk Γ B F σ H env ∧ Rep H (La F) d v ∧ match g d env with
  | some env' => ∀ σ', wipe σ' vs = wipe σ vs → StOk Γ B F σ' H env' → Q σ' H
  | none => False
structure GG (X : Cx) (Γ : Cy) (tg : Expr) (vs : List Nat) (g : D → En → Option En) : Prop where
  pg : PG X tg (tG Γ vs g)
theorem PG.weak {X : Cx} {tg : Expr} {t t' : TG} (h : PG X tg t) (w : ∀ v σ H Q, t' v σ H Q → t v σ H Q) : PG X tg t' := ⟨fun pins s σ H v u Q I r q => h.run pins s σ H v u Q I r (w v σ H Q q)⟩
theorem PGs.weak {X : Cx} {ts : List Expr} {t t' : TGs} (h : PGs X ts t) (w : ∀ v σ H Q, t' v σ H Q → t v σ H Q) : PGs X ts t' := ⟨fun pins s σ H v u Q I r q => h.run pins s σ H v u Q I r (w v σ H Q q)⟩
@[simp] def gN (i : Nat) : D → En → Option En := fun d e => some (e.set i (some d))
section
variable {X : Cx} {Γ : Cy} {pos : Pos} {x : Str}
theorem gg_name (i : Nat) (hN : X.N.Nodup) (hx : i ∉ Γ.X := by (try dsimp only); decide) (hm : i ∉ Γ.M := by (try dsimp only); decide) (hp : i ∉ Γ.P := by (try dsimp only); decide) (hi : X.N[i]? = some x := by rfl) (hl : Loc X.env.scope x := by first | exact Or.inl rfl | exact Or.inr rfl)
    (hf : X.fn x = true ∨ X.env.scope.names.lookup x = some .local := by first | exact .inl rfl | exact .inr rfl) : GG X Γ (.Name x pos) [i] (gN i) := by
  refine ⟨PG.weak (pg_name hN hi hl hf) ?_⟩
  rintro v σ H Q ⟨B, F, env, d, ok, r, h⟩
  exact h (σ.set i (some v)) (wipe_set_in (by simp)) (ok.set hx hm hp r)
@[simp] def gNil' : List D → En → Option En := fun ds e => match ds with
  | [] => some e
  | _ => none
@[simp] def gCons' (g : D → En → Option En) (gs : List D → En → Option En) : List D → En → Option En := fun ds e => match ds with
  | d :: ds => (g d e).bind (gs ds)
  | [] => none
def tGs (Γ : Cy) (vs : List Nat) (g : List D → En → Option En) : TGs := fun us σ H Q => ∃ B F env ds, StOk Γ B F σ H env ∧ Reps H (La F) ds us ∧ match g ds env with
  | some env' => ∀ σ', wipe σ' vs = wipe σ vs → StOk Γ B F σ' H env' → Q σ' H
  | none => False
structure GGs (X : Cx) (Γ : Cy) (ts : List Expr) (vs : List Nat) (g : List D → En → Option En) : Prop where
  pg : PGs X ts (tGs Γ vs g)
theorem ggs_nil : GGs X Γ [] [] gNil' := by
  refine ⟨PGs.weak pgs_nil ?_⟩
  rintro us σ H Q ⟨B, F, env, ds, ok, r, h⟩
  cases ds with
  | nil => exact ⟨r, h σ rfl ok⟩
  | cons d ds => exact h.elim
theorem wipe_app {σ : L2.St} : ∀ {vs ws : List Nat}, wipe σ (vs ++ ws) = wipe (wipe σ ws) vs
  | [], _ => rfl
  | v :: vs, ws => by
    show (wipe σ (vs ++ ws)).set v none = (wipe (wipe σ ws) vs).set v none
    rw [wipe_app]
theorem wipe_congr {σ σ' : L2.St} {vs ws : List Nat} (h : wipe σ' vs = wipe σ vs) (hs : ∀ i ∈ vs, i ∈ ws) : wipe σ' ws = wipe σ ws := by
  have hl := wipe_eq_length h
  refine List.ext_getElem? fun i => ?_
  by_cases hi : i ∈ ws
  · have key : ∀ {τ : L2.St} {ws : List Nat}, i ∈ ws → (wipe τ ws)[i]? = if i < τ.length then some none else none := fun {τ ws} hm => by
      induction ws with
      | nil => simp at hm
      | cons v vs ih =>
        show ((wipe τ vs).set v none)[i]? = _
        by_cases e : v = i
        · subst e
          by_cases hl : v < τ.length
          · rw [List.getElem?_set_self (by rw [wipe_length]; exact hl), if_pos hl]
          · rw [List.getElem?_eq_none (by rw [List.length_set, wipe_length]; omega), if_neg hl]
        · rw [List.getElem?_set_ne e]
          exact ih ((List.mem_cons.mp hm).resolve_left fun z => e z.symm)
    rw [key hi, key hi, hl]
  · rw [wipe_out hi, wipe_out hi]
    exact wipe_eq_out h fun z => hi (hs i z)
theorem ggs_cons {e : Expr} {es : List Expr} {vs ws : List Nat} {g : D → En → Option En} {gs : List D → En → Option En} (h1 : GG X Γ e vs g) (h2 : GGs X Γ es ws gs)
    (hs : (assignEach (e :: es) X.env).map (·.2) = assign e X.env :: (assignEach es X.env).map (·.2) := by rfl) : GGs X Γ (e :: es) (vs ++ ws) (gCons' g gs) := by
  refine ⟨PGs.weak (pgs_cons h1.pg h2.pg hs) ?_⟩
  rintro us σ H Q ⟨B, F, env, ds, ok, r, h⟩
  cases ds with
  | nil => exact h.elim
  | cons d ds =>
    obtain ⟨x, rr, rfl, r1, r2⟩ := r
    refine ⟨x, rr, rfl, B, F, env, d, ok, r1, ?_⟩
    have h' : match (g d env).bind (gs ds) with
      | some env' => ∀ σ', wipe σ' (vs ++ ws) = wipe σ (vs ++ ws) → StOk Γ B F σ' H env' → Q σ' H
      | none => False := h
    cases q : g d env with
    | none => rw [q] at h'; exact h'
    | some env1 =>
      rw [q] at h'
      intro σ1 w1 ok1
      refine ⟨B, F, env1, ds, ok1, r2, ?_⟩
      have h'' : match gs ds env1 with
        | some env' => ∀ σ', wipe σ' (vs ++ ws) = wipe σ (vs ++ ws) → StOk Γ B F σ' H env' → Q σ' H
        | none => False := h'
      cases q2 : gs ds env1 with
      | none => rw [q2] at h''; exact h''
      | some env2 =>
        rw [q2] at h''
        intro σ2 w2 ok2
        exact h'' σ2 ((wipe_congr w2 fun i hi => List.mem_append_right _ hi).trans (wipe_congr w1 fun i hi => List.mem_append_left _ hi)) ok2
/-- a, b, .. = a tuple -/
@[simp] def gTupD (n : Nat) (g : List D → En → Option En) : D → En → Option En := fun d e => match d with
  | .tup ds => if ds.length = n then g ds e else none
  | _ => none
theorem gg_tup {es : List Expr} {k n : Nat} {vs : List Nat} {g : List D → En → Option En} (hc : X.calm = true) (h : GGs X Γ es vs g)
    (hn : (assignEach es X.env).length = n := by rfl) (hst : (assignEach es X.env).findIdx? (·.1) = none := by rfl) : GG X Γ (.Tuple es k pos) vs (gTupD n g) := by
  refine ⟨PG.weak (pg_tup hc h.pg hn hst) ?_⟩
  rintro v σ H Q ⟨B, F, env, d, ok, r, h⟩
  cases d with
  | tup ds =>
    obtain ⟨a, xs, rfl, hA, rA⟩ := r
    have h' : match (if ds.length = n then g ds env else none) with
      | some env' => ∀ σ', wipe σ' vs = wipe σ vs → StOk Γ B F σ' H env' → Q σ' H
      | none => False := h
    split at h'
    · rename_i env' hq
      split at hq
      · rename_i hl
        exact ⟨a, xs, rfl, SqT.rd hA, by rw [rA.length]; exact hl, B, F, env, ds, ok, rA, by rw [hq]; exact h'⟩
      · cases hq
    · exact h'.elim
  | _ => exact h.elim
end
end Ev

set_option Elab.async false
set_option linter.all false
set_option maxRecDepth 100000
set_option maxHeartbeats 4000000
/-! Ev7: comprehensions. -/
namespace Ev
open PySem L2

theorem le_sum : ∀ {l : List Nat} {i : Nat}, i ∈ l → i ≤ l.sum
  | a :: l, i, h => by
    rw [List.sum_cons]
    rcases List.mem_cons.mp h with e | h
    · omega
    · have := le_sum h
      omega
theorem wipe_in {τ : L2.St} {i : Nat} : ∀ {ws : List Nat}, i ∈ ws → (wipe τ ws)[i]? = if i < τ.length then some none else none
  | v :: vs, hm => by
    show ((wipe τ vs).set v none)[i]? = _
    by_cases e : v = i
    · subst e
      by_cases hl : v < τ.length
      · rw [List.getElem?_set_self (by rw [wipe_length]; exact hl), if_pos hl]
      · rw [List.getElem?_eq_none (by rw [List.length_set, wipe_length]; omega), if_neg hl]
    · rw [List.getElem?_set_ne e]
      exact wipe_in ((List.mem_cons.mp hm).resolve_left fun z => e z.symm)
theorem wipe_idem (σ : L2.St) (vs : List Nat) : wipe (wipe σ vs) vs = wipe σ vs := by
  refine List.ext_getElem? fun i => ?_
  by_cases hi : i ∈ vs
  · rw [wipe_in hi, wipe_in hi, wipe_length]
  · rw [wipe_out hi]
section
variable {Γ : Cy} {B : Base} {F F1 F2 : Fp} {σ : L2.St} {H H1 H2 : Hp} {env : En}
def addF (F : Fp) (n : Nat) (D : Addr) : Fp := fun i => if i = n then D :: F n else F i
theorem addF_eq {n : Nat} {D : Addr} : addF F n D n = D :: F n := by unfold addF; rw [if_pos rfl]
theorem addF_ne {n i : Nat} {D : Addr} (h : i ≠ n) : addF F n D i = F i := by unfold addF; rw [if_neg h]
theorem addF_mem {n i : Nat} {D b : Addr} (h : b ∈ addF F n D i) : b ∈ F i ∨ (i = n ∧ b = D) := by
  unfold addF at h
  split at h
  · rename_i e
    subst e
    rcases List.mem_cons.mp h with z | z
    · exact .inr ⟨rfl, z⟩
    · exact .inl z
  · exact .inl h
/-- fewer places are a slot's own -/
theorem SlotOk.less {i : Nat} {d : D} {v : V} (h : SlotOk Γ F H i d v) (e : F1 i = F i) (l : ∀ j a, a ∈ F1 j → a ∈ F j) : SlotOk Γ F1 H i d v := by
  unfold SlotOk at h ⊢
  have la : ∀ {a : Addr}, La F a → La F1 a := fun {a} q j hj => q j (l j a hj)
  split
  · rename_i hx
    rw [if_pos hx] at h
    rw [e]; exact h
  · rename_i hx
    rw [if_neg hx] at h
    split
    · rename_i hm
      rw [if_pos hm] at h
      obtain ⟨ds, a, xs, e1, e2, e3, e4, e5⟩ := h
      exact ⟨ds, a, xs, e1, e2, e.trans e3, e4, e5.imp (fun _ _ q => q) fun _ _ q l => ⟨q, la l⟩⟩
    · rename_i hm
      rw [if_neg hm] at h
      exact h.imp (fun _ _ q => q) fun _ _ q l => ⟨q, la l⟩
/-- a place that no slot's value knows is kept apart -/
theorem StOk.add (ok : StOk Γ B F σ H env) {n : Nat} {D : Addr} {xs : List V} (hl : env.length ≤ n) (hD : H D = none) : StOk Γ B (addF F n D) σ (upd H D (.lst xs)) env := by
  have hF := ok.notF hD
  have hB : B.H D = none := by
    cases q : B.H D with
    | none => rfl
    | some o => exact absurd hD (ok.dom D (by rw [q]; simp))
  have ok' := ok.alloc (o := .lst xs) hD
  refine ⟨ok'.len, ok'.dom, ok'.keep, fun i d e => ?_, fun i j b hne hb hb' => ?_, fun i b hb => ?_, fun i b hb => ?_, ok'.xval, ok'.xdef, ok'.entD, fun i hi b hb => ?_, ok'.xvx, ok'.newv⟩
  · have hi : i < n := Nat.lt_of_lt_of_le (List.getElem?_eq_some_iff.mp e).1 hl
    obtain ⟨v, h1, h2⟩ := ok.slot i d e
    refine ⟨v, h1, ?_⟩
    have tr : ∀ {a : Addr} {o : HO}, H a = some o → La F a → La (addF F n D) a := fun {a o} q l j hj => by
      rcases addF_mem hj with z | ⟨_, z⟩
      · exact l j z
      · subst z
        rw [hD] at q; cases q
    have kp : ∀ b o, H b = some o → upd H D (.lst xs) b = some o := fun b o q => by rw [upd_ne (ne_of_none q hD)]; exact q
    unfold SlotOk at h2 ⊢
    split
    · rename_i hx
      rw [if_pos hx] at h2
      rw [addF_ne (Nat.ne_of_lt hi)]
      exact h2.keep kp
    · rename_i hx
      rw [if_neg hx] at h2
      split
      · rename_i hm
        rw [if_pos hm] at h2
        obtain ⟨ds, a, ys, e1, e2, e3, e4, e5⟩ := h2
        exact ⟨ds, a, ys, e1, e2, (addF_ne (Nat.ne_of_lt hi)).trans e3, kp _ _ e4, e5.imp (fun _ _ q => kp _ _ q) fun _ _ q l => ⟨kp _ _ q, tr q l⟩⟩
      · rename_i hm
        rw [if_neg hm] at h2
        exact h2.imp (fun _ _ q => kp _ _ q) fun _ _ q l => ⟨kp _ _ q, tr q l⟩
  · rcases addF_mem hb with z | ⟨rfl, rfl⟩
    · rcases addF_mem hb' with z' | ⟨rfl, rfl⟩
      · exact ok.disj i j b hne z z'
      · exact hF i z
    · rcases addF_mem hb' with z' | ⟨rfl, _⟩
      · exact hF j z'
      · exact hne rfl
  · rcases addF_mem hb with z | ⟨_, rfl⟩
    · exact ok.orig i b z
    · exact .inr hB
  · rcases addF_mem hb with z | ⟨_, rfl⟩
    · exact ok'.trk i b z
    · exact ⟨_, upd_same, trivial⟩
  · rcases addF_mem hb with z | ⟨_, rfl⟩
    · exact ok.entF i hi b z
    · cases q : B.E b with
      | none => rfl
      | some o => exact absurd hD (ok.entD b (by rw [q]; simp))
/-- a list at a place of the slot n's own, which has no value -/
theorem StOk.mut (ok : StOk Γ B F σ H env) {n : Nat} {D : Addr} {xs ys : List V} (hl : env.length ≤ n) (hn : D ∈ F n) (hD : H D = some (.lst xs)) (hB : B.H D = none) : StOk Γ B F σ (upd H D (.lst ys)) env := by
  have kp : ∀ b o, b ≠ D → H b = some o → upd H D (.lst ys) b = some o := fun b o q e => by rw [upd_ne q]; exact e
  have neL : ∀ {a : Addr}, La F a → a ≠ D := fun {a} l e => l n (by rw [e]; exact hn)
  have neT : ∀ {a : Addr} {zs : FzO}, H a = some zs.1 → a ≠ D := fun {a zs} q e => by rw [e, hD] at q; exact fz_not zs (by rw [← Option.some.inj q]; trivial)
  refine ⟨ok.len, fun b h => upd_dom (ok.dom b h), fun b o h hw => kp b o (fun e => by rw [e, hB] at h; cases h) (ok.keep b o h hw), fun i d e => ?_, ok.disj, ok.orig, fun i b hb => ?_, ok.xval, ok.xdef, fun b h => upd_dom (ok.entD b h), ok.entF, ok.xvx, ok.newv⟩
  · have hi : i ≠ n := Nat.ne_of_lt (Nat.lt_of_lt_of_le (List.getElem?_eq_some_iff.mp e).1 hl)
    obtain ⟨v, h1, h2⟩ := ok.slot i d e
    refine ⟨v, h1, ?_⟩
    unfold SlotOk at h2 ⊢
    split
    · rename_i hx
      rw [if_pos hx] at h2
      refine h2.stay (fun b hb o q => kp b o (fun e => ?_) q) fun b o q nm => kp b o (fun e => ?_) q
      · rw [e] at hb
        exact ok.disj i n D hi hb hn
      · rw [e, hD] at q
        cases q
        exact nm trivial
    · rename_i hx
      rw [if_neg hx] at h2
      split
      · rename_i hm
        rw [if_pos hm] at h2
        obtain ⟨ds, a, zs, e1, e2, e3, e4, e5⟩ := h2
        refine ⟨ds, a, zs, e1, e2, e3, kp _ _ (fun e => ?_) e4, e5.imp (fun _ _ q => kp _ _ (neT q) q) fun _ _ q l => ⟨kp _ _ (neL l) q, l⟩⟩
        refine ok.disj i n a hi (by rw [e3]; simp) ?_
        rw [e]; exact hn
      · rename_i hm
        rw [if_neg hm] at h2
        exact h2.imp (fun _ _ q => kp _ _ (neT q) q) fun _ _ q l => ⟨kp _ _ (neL l) q, l⟩
  · obtain ⟨o, e, m⟩ := ok.trk i b hb
    by_cases q : b = D
    · rw [q]; exact ⟨_, upd_same, trivial⟩
    · exact ⟨o, kp b o q e, m⟩
theorem Go.updD (g : Go Γ F1 H1 F H) {D : Addr} {o : HO} (hD : H1 D = none) : Go Γ F1 H1 F (upd H D o) where
  keep := fun b u h hx => by rw [upd_ne (ne_of_none h hD)]; exact g.keep b u h hx
  dom := fun b h => upd_dom (g.dom b h)
  same := g.same
  grow := g.grow
end

/-! ### the comprehension -/
def lcRun (k : Fk) (vs : List Nat) (g : D → En → Option En) (t : En → Out Bool) (f : En → Out D) : List D → En → List D → Option (List D × En)
  | [], e, acc => some (acc, e)
  | d :: ds, e, acc => match g d (wipeE e vs) with
    | none => none
    | some e1 => match t e1 with
      | .ok true e2 => match f e2 with
        | .ok y e3 => if (okK k y && lim acc.length) = true then lcRun k vs g t f ds e3 (acc ++ [y]) else none
        | _ => none
      | .ok false e2 => lcRun k vs g t f ds e2 acc
      | _ => none
@[simp] def sLc (k : Fk) (vs : List Nat) (fi : En → Out (List D)) (g : D → En → Option En) (t : En → Out Bool) (f : En → Out D) : En → Out D := fun e => (fi e).bind fun ds e1 => match lcRun k vs g t f ds e1 [] with
  | some (acc, e2) => .ok (.lst acc) (restE e1 e2 vs)
  | none => .stuck
/-- in a comprehension nothing is let out -/
def W0 : WX := fun _ _ _ _ => False
theorem lc_ok {Γ : Cy} {W : WX} {st : Bool} {k : Fk} {vs : List Nat} {fi : En → Out (List D)} {g : D → En → Option En} {t : En → Out Bool} {f : En → Out D} {σ : L2.St} {H : Hp} {Q : VK} (hx : ∀ i ∈ vs, i ∉ Γ.X) (hp : ∀ i ∈ vs, i ∉ Γ.P)
    (h : tE Γ W .all (sLc k vs fi g t f) σ H Q) : tLc (tI Γ W st fi) (tG Γ vs g) (tT Γ W0 t) (tE Γ W0 k f) vs σ H Q := by
  obtain ⟨B, F, env, ok, h⟩ := h
  refine ⟨B, F, env, ok, oE.imp (oE.bind h) fun ds e1 H1 F1 _ _ ⟨ok1, g1, h1⟩ J G Y wk hG hY D hD => ?_⟩
  cases q : lcRun k vs g t f ds e1 [] with
  | none => rw [q] at h1; exact h1.elim
  | some r =>
    obtain ⟨accF, eF⟩ := r
    rw [q] at h1
    have hn : ∃ n, e1.length ≤ n ∧ n ∉ Γ.X := ⟨e1.length + Γ.X.sum + 1, by omega, fun z => by have := le_sum z; omega⟩
    obtain ⟨n, hnl, hnX⟩ := hn
    have hF1 := ok1.notF hD
    have hB : B.H D = none := by
      cases q : B.H D with
      | none => rfl
      | some o => exact absurd hD (ok1.dom D (by rw [q]; simp))
    have hXF : ∀ {i : Nat}, i ∈ Γ.X → addF F1 n D i = F1 i := fun {i} hi => addF_ne (by rintro rfl; exact hnX hi)
    let Pv : Nat → Hp → Prop := fun i H2 => ∃ (F2 : Fp) (e : En) (acc : List Ev.D) (av : List V), StOk Γ B F2 (wipe σ vs) H2 (wipeE e vs) ∧ Go Γ (addF F1 n D) H1 F2 H2 ∧ H2 D = some (.lst av) ∧ Reps H2 (Lf H F2) acc av ∧ lcRun k vs g t f (ds.drop i) e acc = some (accF, eF)
    have hlen : ∀ {τ : L2.St} {F2 : Fp} {H2 : Hp} {e : En}, StOk Γ B F2 τ H2 e → τ.length = σ.length → e.length ≤ n := fun {τ F2 H2 e} o hl => by
      rw [← o.len, hl, ok1.len]; exact hnl
    have kp : ∀ {i : Nat} {H2 : Hp}, Pv i H2 → KeepS st Γ F1 H1 H2 := fun {i H2} pv => by
      obtain ⟨F2, e, acc, av, ok2, g2, _⟩ := pv
      intro b o hb hm
      refine g2.keep b o hb fun m j hj => ?_
      rw [hXF hj]
      have := hm m
      split at this
      · exact this j
      · exact this j hj
    refine lc_it wk Pv ⟨addF F1 n D, e1, [], [], (ok1.add hnl hD).wipe hx hp, ?_, upd_same, rfl, by rw [List.drop_zero]; exact q⟩ (fun i H2 _ pv => hG H2 (kp pv)) (fun i x H2 H3 hi pv y => ?_) (fun H2 pv => ?_)
    · exact go_alloc hD
    · -- a turn
      have kpv := kp pv
      obtain ⟨F2, e, acc, av, ok2, g2, hD2, rA, hq⟩ := pv
      obtain ⟨sm, d, hd, rd⟩ := hY i H2 x H3 hi kpv y
      have ed : ds.drop i = d :: ds.drop (i + 1) := by
        obtain ⟨hi', e'⟩ := List.getElem?_eq_some_iff.mp hd
        rw [List.drop_eq_getElem_cons hi', e']
      rw [ed] at hq
      unfold lcRun at hq
      have hDn : D ∈ F2 n := by rw [g2.same n hnX, addF_eq]; simp
      have rd2 : Rep H3 (La F2) d x := rd.imp (fun _ _ q => q) fun a zs q l => ⟨q, by
        obtain ⟨⟨o, eo⟩, la⟩ := l
        refine g2.outA eo fun j hj => ?_
        rcases addF_mem hj with z | ⟨_, z⟩
        · exact la j z
        · rw [z, hD] at eo; cases eo⟩
      have ok3 := ok2.kept sm
      have g3 := g2.trans (go_same sm)
      refine ⟨B, F2, wipeE e vs, d, ok3, rd2, ?_⟩
      cases q1 : g d (wipeE e vs) with
      | none => rw [q1] at hq; cases hq
      | some env1 =>
        rw [q1] at hq
        simp only at hq
        intro σ2 w2 ok4
        have w2' : wipe σ2 vs = wipe σ vs := w2.trans (wipe_idem σ vs)
        refine ⟨w2', B, F2, env1, ok4, ?_⟩
        cases q2 : t env1 with
        | stuck => rw [q2] at hq; cases hq
        | raise c e2 => rw [q2] at hq; cases hq
        | ok b e2 =>
          rw [q2] at hq
          intro H5 F5 ok5 g5
          have D5 : H5 D = some (.lst av) := g5.keep D _ (sm D _ hD2) fun _ j hj hDj => ok4.disj j n D (by rintro rfl; exact hnX hj) hDj hDn
          cases b with
          | false =>
            simp only at hq
            refine iteF ?_
            refine ⟨F5, e2, acc, av, ?_, g3.trans g5, D5, ?_, hq⟩
            · rw [← w2']; exact ok5.wipe hx hp
            · exact (rA.same sm).imp (fun a zs q => g5.tups a zs q) fun a zs q l => ⟨g5.keep a _ q (fun _ j _ => l.2 j), l.1, g5.outA q l.2⟩
          | true =>
            simp only at hq
            refine iteT ?_
            refine ⟨B, F5, e2, ok5, ?_⟩
            cases q3 : f e2 with
            | stuck => rw [q3] at hq; cases hq
            | raise c e3 => rw [q3] at hq; cases hq
            | ok y2 e3 =>
              rw [q3] at hq
              simp only at hq
              split at hq
              · rename_i hz
                rw [Bool.and_eq_true] at hz
                intro H6 F6 ok6 g6 v rv
                have hDn5 : D ∈ F5 n := by rw [g5.same n hnX]; exact hDn
                have hDn6 : D ∈ F6 n := by rw [g6.same n hnX]; exact hDn5
                have D6 : H6 D = some (.lst av) := g6.keep D _ D5 fun _ j hj hDj => ok5.disj j n D (by rintro rfl; exact hnX hj) hDj hDn5
                have rv2 : Rep H6 (Lf H5 F6) y2 v := RepK.ok hz.1 rv
                have gAll : Go Γ (addF F1 n D) H1 F6 H6 := (g3.trans g5).trans g6
                have neL : ∀ {a : Addr}, Lf H F6 a → a ≠ D := fun {a} l e => l.2 n (by rw [e]; exact hDn6)
                have rA6 : Reps H6 (Lf H F6) acc av := ((rA.same sm).imp (fun a zs q => g5.tups a zs q) fun a zs q l => ⟨g5.keep a _ q (fun _ j _ => l.2 j), l.1, g5.outA q l.2⟩ : Reps H5 (Lf H F5) acc av).imp (fun a zs q => g6.tups a zs q) fun a zs q l => ⟨g6.keep a _ q (fun _ j _ => l.2 j), l.1, g6.outA q l.2⟩
                have rv3 : Rep H6 (Lf H F6) y2 v := rv2.imp (fun _ _ q => q) fun a zs q l => ⟨q, g1.free ((g3.trans g5).free l.1), l.2⟩
                have toD : ∀ {es : List Ev.D} {us : List V}, Reps H6 (Lf H F6) es us → Reps (upd H6 D (.lst (av ++ [v]))) (Lf H F6) es us := fun {es us} r => r.imp (fun a zs q => by rw [upd_ne (fun e => by rw [e, D6] at q; exact fz_not zs (by rw [← Option.some.inj q]; trivial))]; exact q) fun a zs q l => ⟨by rw [upd_ne (neL l)]; exact q, l⟩
                have hl6 : e3.length ≤ n := hlen ok6 (by have := congrArg List.length w2'; rwa [wipe_length, wipe_length] at this)
                refine ⟨av, D6, by rw [rA6.length]; exact Nat.lt_of_le_of_lt (of_decide_eq_true hz.2) (by decide), F6, e3, acc ++ [y2], av ++ [v], ?_, gAll.updD hD, upd_same, toD (rA6.append (Reps.one rv3)), hq⟩
                rw [← w2']
                exact (ok6.mut hl6 hDn6 D6 hB).wipe hx hp
              · cases hq
    · -- the end
      obtain ⟨F2, e, acc, av, ok2, g2, hD2, rA, hq⟩ := pv
      rw [List.drop_length] at hq
      unfold lcRun at hq
      injection hq with hq
      injection hq with ha he
      subst ha he
      let Fe : Fp := fun i => if i = n then F1 n else F2 i
      have Fe_n : Fe n = F1 n := by show (if n = n then F1 n else F2 n) = _; rw [if_pos rfl]
      have Fe_ne : ∀ {i : Nat}, i ≠ n → Fe i = F2 i := fun {i} hi => by show (if i = n then F1 n else F2 i) = _; rw [if_neg hi]
      have hDn : D ∈ F2 n := by rw [g2.same n hnX, addF_eq]; simp
      have sub : ∀ j a, a ∈ Fe j → a ∈ F2 j := fun j a ha => by
        by_cases hj : j = n
        · subst hj
          rw [Fe_n] at ha
          rw [g2.same j hnX, addF_eq]
          exact List.mem_cons_of_mem _ ha
        · rw [Fe_ne hj] at ha; exact ha
      have hge : Go Γ F1 H1 Fe H2 := by
        refine ⟨fun b o hb hm => g2.keep b o hb fun m j hj => by rw [hXF hj]; exact hm m j hj, g2.dom, fun i hi => ?_, fun i hi b hb => ?_⟩
        · by_cases e : i = n
          · subst e; exact Fe_n
          · rw [Fe_ne e, g2.same i hi, addF_ne e]
        · rw [Fe_ne (by rintro rfl; exact hnX hi)] at hb
          rcases g2.grow i hi b hb with ⟨j, hj, z⟩ | z
          · rw [hXF hj] at z; exact .inl ⟨j, hj, z⟩
          · exact .inr z
      have hlE : e.length = e1.length := by
        have := ok2.len
        rw [wipe_length, wipeE_length] at this
        rw [← this, ok1.len]
      have okE : StOk Γ B Fe σ H2 (restE e1 e vs) := by
        refine ⟨by rw [restE_length, hlE]; exact ok1.len, ok2.dom, ok2.keep, fun i d ed => ?_, fun i j b hne hb hb' => ok2.disj i j b hne (sub i b hb) (sub j b hb'), fun i b hb => ok2.orig i b (sub i b hb), fun i b hb => ok2.trk i b (sub i b hb), ok1.xval, fun p hp' hX => ?_, ok2.entD, fun i hi b hb => ok2.entF i hi b (sub i b hb), ok1.xvx, ok1.newv⟩
        · have hi : i ≠ n := by
            have := (List.getElem?_eq_some_iff.mp ed).1
            rw [restE_length, hlE] at this
            omega
          by_cases hv : i ∈ vs
          · have e0 := restE_in hv ed
            obtain ⟨v, h1, h2⟩ := ok1.slot i d e0
            exact ⟨v, h1, h2.go hge (hge.same i (hx i hv)) (fun z => absurd z (hx i hv)) ok1.disj⟩
          · rw [restE_out hv] at ed
            obtain ⟨v, h1, h2⟩ := ok2.slot i d (by rw [wipeE_out hv]; exact ed)
            rw [wipe_out hv] at h1
            exact ⟨v, h1, h2.less (Fe_ne hi) sub⟩
        · have hv : p.1 ∉ vs := fun z => hx _ z hX
          obtain ⟨d, hd⟩ := ok2.xdef p hp' hX
          rw [wipeE_out hv] at hd
          exact ⟨d, by rw [restE_out hv]; exact hd⟩
      refine h1 H2 Fe okE hge (.ref D) ⟨D, av, rfl, hD2, ⟨g1.free hD, fun i hi => ?_⟩, rA.imp (fun _ _ q => q) fun a zs q l => ⟨q, l.1, fun i hi => l.2 i (sub i a hi)⟩⟩
      by_cases e : i = n
      · subst e
        rw [Fe_n] at hi
        exact hF1 i hi
      · rw [Fe_ne e] at hi
        exact ok2.disj i n D e hi hDn

structure GTs (X : Cx) (Γ : Cy) (W : WX) (ifs : List Expr) (f : En → Out Bool) : Prop where
  pt : PTs X ifs (tT Γ W f)
@[simp] def sYes : En → Out Bool := fun e => .ok true e
section
variable {X : Cx} {Γ : Cy} {W : WX} {pos : Pos} {c : Expr} {t : En → Out Bool}
theorem gts_nil : GTs X Γ W [] sYes := ⟨⟨fun pins s σ H Q I ⟨B, F, env, ok, h⟩ => pts_nil.run pins s σ H Q I (h.here ok)⟩⟩
theorem gts_one (h : GT X Γ W c t) : GTs X Γ W [c] t := ⟨pts_one h.pt⟩
variable {elt tg iter : Expr} {ifs : List Expr} {scope : Scope} {own : List (Str × Nat)} {st : Bool} {k : Fk} {fi : En → Out (List D)} {g : D → En → Option En} {f : En → Out D}
theorem ge_lc (hc : X.calm = true) (hN : X.N.Nodup) (hi : GI X Γ W tg iter st fi) (ok : BlkOk X.N X.env.scope scope own)
    (hg : ∀ (s : Shared) (H : Hp) (C : Addr) (cl : List (Str × Addr)) (fp : List Addr), GG (X.blk s H scope (compEnvC scope cl C X.env) fp) Γ tg (own.map (·.2)) g)
    (ht : ∀ (s : Shared) (H : Hp) (C : Addr) (cl : List (Str × Addr)) (fp : List Addr), GTs (X.blk s H scope (compEnvC scope cl C X.env) fp) Γ W0 ifs t)
    (he : ∀ (s : Shared) (H : Hp) (C : Addr) (cl : List (Str × Addr)) (fp : List Addr), GE (X.blk s H scope (compEnvC scope cl C X.env) fp) Γ W0 elt k f)
    (hx : ∀ i ∈ own.map (·.2), i ∉ Γ.X := by (try dsimp only); decide) (hp : ∀ i ∈ own.map (·.2), i ∉ Γ.P := by (try dsimp only); decide) (hs : ∀ x, foldedSetIterable iter X.env x = pure x := by intro _; rfl) :
    GE X Γ W (.ListComp elt [⟨tg, iter, ifs, 0⟩] scope pos) .all (sLc k (own.map (·.2)) fi g t f) :=
  ⟨PE.weak (pe_lc hc hN hi.pi ok (fun s H C cl fp => (hg s H C cl fp).pg) (fun s H C cl fp => (ht s H C cl fp).pt) (fun s H C cl fp => (he s H C cl fp).pe) hs) fun _ _ _ h => lc_ok hx hp h⟩
end
end Ev

set_option Elab.async false
set_option linter.all false
set_option maxRecDepth 100000
set_option maxHeartbeats 4000000
/-! Ev8: statements. -/
namespace Ev
open PySem L2

inductive Fl where
  | nx | ret (d : D) | bk | ct
/-- what is wanted behind a statement's outcome -/
def oS (Γ : Cy) (W : WX) (B : Base) (o : Out Fl) (D : Ends) : Prop := match o with
  | .ok .nx e => ∀ σ H F, StOk Γ B F σ H e → D.nx σ H
  | .ok .bk e => ∀ σ H F, StOk Γ B F σ H e → D.bk σ H
  | .ok .ct e => ∀ σ H F, StOk Γ B F σ H e → D.ct σ H
  | .ok (.ret d) e => ∀ v σ H F, StOk Γ B F σ H e → Rep H (fun a => B.E a = none ∧ ∀ i ∈ Γ.X, a ∉ F i) d v → D.rt v H
  | .raise c e => ∀ σ H F, StOk Γ B F σ H e → W (.ref (Γ.exc c)) none σ H
  | .stuck => False
def tS (Γ : Cy) (W : WX) (f : En → Out Fl) : TS := fun D σ H => ∃ B F env, StOk Γ B F σ H env ∧ oS Γ W B (f env) D
structure GS (X : Cx) (Γ : Cy) (W : WX) (st : Stmt) (f : En → Out Fl) : Prop where
  ps : PS X st (tS Γ W f)
structure GSs (X : Cx) (Γ : Cy) (W : WX) (st : List Stmt) (f : En → Out Fl) : Prop where
  ps : PSs X st (tS Γ W f)
theorem PS.weak {X : Cx} {st : Stmt} {t t' : TS} (h : PS X st t) (w : ∀ D σ H, t' D σ H → t D σ H) : PS X st t' := ⟨fun pins s σ H D I q => h.run pins s σ H D I (w D σ H q)⟩
theorem PSs.weak {X : Cx} {st : List Stmt} {t t' : TS} (h : PSs X st t) (w : ∀ D σ H, t' D σ H → t D σ H) : PSs X st t' := ⟨fun pins s σ H D I q => h.run pins s σ H D I (w D σ H q)⟩

@[simp] def sNx : En → Out Fl := fun e => .ok .nx e
@[simp] def sSeq2 (f g : En → Out Fl) : En → Out Fl := fun e => match f e with
  | .ok .nx e1 => g e1
  | o => o
section
variable {X : Cx} {Γ : Cy} {W : WX} {pos : Pos} {st : Stmt} {rest : List Stmt} {f g : En → Out Fl}
theorem gss_nil : GSs X Γ W [] sNx := ⟨PSs.weak pss_nil fun _ σ H ⟨_, F, _, ok, h⟩ => h σ H F ok⟩
theorem gss_one (h : GS X Γ W st f) : GSs X Γ W [st] f := ⟨pss_one h.ps⟩
theorem gss_cons (h1 : GS X Γ W st f) (h2 : GSs X Γ W rest g) : GSs X Γ W (st :: rest) (sSeq2 f g) := by
  refine ⟨PSs.weak (pss_cons h1.ps h2.ps) ?_⟩
  rintro D σ H ⟨B, F, env, ok, h⟩
  refine ⟨B, F, env, ok, ?_⟩
  unfold sSeq2 at h
  cases q : f env with
  | stuck => rw [q] at h; exact h
  | raise c e => rw [q] at h; exact h
  | ok fl e =>
    rw [q] at h
    cases fl with
    | nx => exact fun σ' H' F' ok' => ⟨B, F', e, ok', h⟩
    | ret d => exact h
    | bk => exact h
    | ct => exact h
theorem gs_pass : GS X Γ W (.Pass pos) sNx := ⟨PS.weak ps_pass fun _ σ H ⟨_, F, _, ok, h⟩ => h σ H F ok⟩
@[simp] def sBk : En → Out Fl := fun e => .ok .bk e
@[simp] def sCt : En → Out Fl := fun e => .ok .ct e
theorem gs_break : GS X Γ W (.Break pos) sBk := ⟨PS.weak ps_break fun _ σ H ⟨_, F, _, ok, h⟩ => h σ H F ok⟩
theorem gs_continue : GS X Γ W (.Continue pos) sCt := ⟨PS.weak ps_continue fun _ σ H ⟨_, F, _, ok, h⟩ => h σ H F ok⟩

/-- from an expression's outcome to a statement's -/
theorem oS.bind {α : Type} {B : Base} {F : Fp} {σ : L2.St} {H : Hp} {o : Out α} {k : α → En → Out Fl} {D : Ends} (h : oS Γ W B (o.bind k) D) : oE Γ W B F σ H o fun a e1 H1 F1 => StOk Γ B F1 σ H1 e1 ∧ Go Γ F H F1 H1 ∧ oS Γ W B (k a e1) D := by
  cases o with
  | ok a e => exact fun H1 F1 ok1 g1 => ⟨ok1, g1, h⟩
  | raise c e => exact fun H1 F1 ok1 g1 => h σ H1 F1 ok1
  | stuck => exact h

variable {e c : Expr} {k : Fk} {fe : En → Out Ev.D} {fc : En → Out Bool} {a b : List Stmt}
/-! an expression alone -/
@[simp] def sDrop (f : En → Out Ev.D) : En → Out Fl := fun e => (f e).bind fun _ e1 => .ok .nx e1
theorem gs_expr (he : GE X Γ W e k fe) (hs : swapsWith e none pos.line X.env = pure false := by rfl) : GS X Γ W (.Expr e pos) (sDrop fe) := by
  refine ⟨PS.weak (ps_expr he.pe hs) ?_⟩
  rintro D σ H ⟨B, F, env, ok, h⟩
  exact ⟨B, F, env, ok, oE.imp (oS.bind h) fun d e1 H1 F1 _ _ ⟨ok1, g1, h1⟩ v _ => h1 σ H1 F1 ok1⟩
@[simp] def sIfS (c : En → Out Bool) (f g : En → Out Fl) : En → Out Fl := fun e => (c e).bind fun b e1 => if b = true then f e1 else g e1
theorem gs_if (hc : GT X Γ W c fc) (ha : GSs X Γ W a f) (hb : GSs X Γ W b g) : GS X Γ W (.If c a b pos) (sIfS fc f g) := by
  refine ⟨PS.weak (ps_if hc.pt ha.ps hb.ps) ?_⟩
  rintro D σ H ⟨B, F, env, ok, h⟩
  refine ⟨B, F, env, ok, oE.imp (oS.bind h) fun t e1 H1 F1 _ _ ⟨ok1, g1, h1⟩ => ?_⟩
  cases t with
  | true => exact ⟨B, F1, e1, ok1, h1⟩
  | false => exact ⟨B, F1, e1, ok1, h1⟩

/-! return -/
@[simp] def sRet (k : Fk) (f : En → Out Ev.D) : En → Out Fl := fun e => (f e).bind fun d e1 => if okK k d = true then .ok (.ret d) e1 else .stuck
theorem gs_ret (he : GE X Γ W e k fe) : GS X Γ W (.Return (some e) pos) (sRet k fe) := by
  refine ⟨PS.weak (ps_ret he.pe) ?_⟩
  rintro D σ H ⟨B, F, env, ok, h⟩
  refine ⟨B, F, env, ok, oE.imp (oS.bind h) fun d e1 H1 F1 _ _ ⟨ok1, g1, h1⟩ v rv => ?_⟩
  split at h1
  · rename_i hk
    refine h1 v σ H1 F1 ok1 ((RepK.ok hk rv).imp (fun _ _ q => q) fun a xs q l => ⟨q, ?_, fun i _ => l.2 i⟩)
    cases q : B.E a with
    | none => rfl
    | some o => exact absurd l.1 (ok.entD a (by rw [q]; simp))
  · exact h1.elim
@[simp] def sRetN : En → Out Fl := fun e => .ok (.ret .non) e
theorem gs_retN : GS X Γ W (.Return none pos) sRetN := ⟨PS.weak ps_retN fun _ σ H ⟨_, F, _, ok, h⟩ => h .non σ H F ok rfl⟩
/-- return of a list of the def's own -/
@[simp] def sRetM (i : Nat) : En → Out Fl := fun e => match e[i]? with
  | some (some (.lst ds)) => if lfrees ds = true then .ok (.ret (.lst ds)) e else .stuck
  | _ => .stuck
theorem gs_retM {x : Str} {p : Pos} (i : Nat) (hx : i ∉ Γ.X := by (try dsimp only); decide) (hm : i ∈ Γ.M := by (try dsimp only); decide) (hN : X.N[i]? = some x := by rfl) (hv : Vis X.env.scope x := by first | exact Or.inl rfl | exact Or.inr (Or.inl rfl) | exact Or.inr (Or.inr rfl)) (hd : (x == ("__debug__" : Str)) = false := by decide)
    (hcd : (x == ("__classdict__" : Str)) = false := by decide) : GS X Γ W (.Return (some (.Name x p)) pos) (sRetM i) := by
  refine ⟨PS.weak (ps_ret (pe_var hN hv hd hcd)) ?_⟩
  rintro D σ H ⟨B, F, env, ok, h⟩
  unfold sRetM at h
  split at h
  · rename_i ds e1
    split at h
    · rename_i hl
      obtain ⟨v, e2, so⟩ := ok.slot i _ e1
      unfold SlotOk at so
      rw [if_neg hx, if_pos hm] at so
      obtain ⟨ds', a, xs, q1, rfl, q3, q4, q5⟩ := so
      cases q1
      refine ⟨_, e2, h _ σ H F ok ⟨a, xs, rfl, q4, ⟨ok.entF i hx a (by rw [q3]; simp), fun j hj => ok.disj i j a ?_ (by rw [q3]; simp)⟩, q5.lf hl⟩⟩
      rintro rfl
      exact hx hj
    · exact h.elim
  · exact h.elim

/-! raise -/
@[simp] def sRaise (c : Nat) : En → Out Fl := fun e => .raise c e
theorem gs_raise {cn : Nat} (hc : X.calm = true) (tk : Takes X W) (he : PMk X e (fun _ H Q => Q (.ref (Γ.exc cn)) none H)) : GS X Γ W (.Raise (some e) none pos) (sRaise cn) :=
  ⟨PS.weak (ps_raise hc tk he) fun D σ H ⟨B, F, env, ok, h⟩ => h σ H F ok⟩

/-! a slot's value -/
@[simp] def okB (k : Fk) (d : Ev.D) : Bool := match k with
  | .all => true
  | .var => true
  | k => okK k d
theorem RepK.okB {H H1 : Hp} {F : Fp} {k : Fk} {d : Ev.D} {v : V} (h : okB k d = true) (r : RepK Γ k H F H1 d v) : Rep H1 (La F) d v := by
  have fin : Rep H1 (Lf H F) d v → Rep H1 (La F) d v := fun r => r.imp (fun _ _ q => q) fun _ _ q l => ⟨q, l.2⟩
  cases k with
  | all => exact fin r
  | var => exact r
  | out => exact fin (RepK.ok (k := .out) h r)
  | mv => exact fin (RepK.ok (k := .mv) h r)
  | bor => exact fin (RepK.ok (k := .bor) h r)
@[simp] def sSet (i : Nat) (k : Fk) (f : En → Out Ev.D) : En → Out Fl := fun e => (f e).bind fun d e1 => if okB k d = true then .ok .nx (e1.set i (some d)) else .stuck
theorem set_core {i : Nat} {D : Ends} {σ : L2.St} {H : Hp} (hx : i ∉ Γ.X) (hm : i ∉ Γ.M) (hp : i ∉ Γ.P) (h : tS Γ W (sSet i k fe) D σ H) : tE Γ W k fe σ H fun v H1 => D.nx (σ.set i (some v)) H1 := by
  obtain ⟨B, F, env, ok, h⟩ := h
  refine ⟨B, F, env, ok, oE.imp (oS.bind h) fun d e1 H1 F1 _ _ ⟨ok1, g1, h1⟩ v rv => ?_⟩
  split at h1
  · rename_i hk
    exact h1 _ H1 F1 (ok1.set hx hm hp (RepK.okB hk rv))
  · exact h1.elim
theorem gs_set {x : Str} {p : Pos} (i : Nat) (hN : X.N.Nodup) (he : GE X Γ W e k fe) (hx : i ∉ Γ.X := by (try dsimp only); decide) (hm : i ∉ Γ.M := by (try dsimp only); decide) (hp : i ∉ Γ.P := by (try dsimp only); decide) (hi : X.N[i]? = some x := by rfl) (hl : Loc X.env.scope x := by first | exact Or.inl rfl | exact Or.inr rfl)
    (hs : swapsWith e (some (.Name x p)) pos.line X.env = pure false := by rfl) (hf : X.fn x = true ∨ X.env.scope.names.lookup x = some .local := by first | exact .inl rfl | exact .inr rfl) : GS X Γ W (.Assign [.Name x p] e pos) (sSet i k fe) :=
  ⟨PS.weak (ps_set hN hi hl he.pe hs hf) fun _ _ _ h => set_core hx hm hp h⟩
variable {elt tg iter : Expr} {ifs : List Expr} {scope : Scope} {own : List (Str × Nat)} {stt : Bool} {fi : En → Out (List Ev.D)} {gt : Ev.D → En → Option En} {ft : En → Out Bool}
/-- name = [..], the name a local on the comprehension's line -/
theorem gs_setLc {y : Str} {py spos : Pos} (i : Nat) (hc : X.calm = true) (hN : X.N.Nodup) (hi : GI X Γ W tg iter stt fi) (ok : BlkOk X.N X.env.scope scope own)
    (hg : ∀ (s : Shared) (H : Hp) (C : Addr) (cl : List (Str × Addr)) (fp : List Addr), GG (X.blk s H scope (compEnvC scope cl C X.env) fp) Γ tg (own.map (·.2)) gt)
    (ht : ∀ (s : Shared) (H : Hp) (C : Addr) (cl : List (Str × Addr)) (fp : List Addr), GTs (X.blk s H scope (compEnvC scope cl C X.env) fp) Γ W0 ifs ft)
    (he : ∀ (s : Shared) (H : Hp) (C : Addr) (cl : List (Str × Addr)) (fp : List Addr), GE (X.blk s H scope (compEnvC scope cl C X.env) fp) Γ W0 elt k fe)
    (hv : ∀ j ∈ own.map (·.2), j ∉ Γ.X := by (try dsimp only); decide) (hq : ∀ j ∈ own.map (·.2), j ∉ Γ.P := by (try dsimp only); decide)
    (hx : i ∉ Γ.X := by (try dsimp only); decide) (hm : i ∉ Γ.M := by (try dsimp only); decide) (hp : i ∉ Γ.P := by (try dsimp only); decide) (hy : X.N[i]? = some y := by rfl) (hyl : X.env.scope.names.lookup y = some .local := by rfl)
    (hsw : swapsWith (.ListComp elt [⟨tg, iter, ifs, 0⟩] scope pos) (some (.Name y py)) spos.line X.env = pure true := by exact sw_true rfl rfl rfl (by decide +kernel)) (hs : ∀ x, foldedSetIterable iter X.env x = pure x := by intro _; rfl) :
    GS X Γ W (.Assign [.Name y py] (.ListComp elt [⟨tg, iter, ifs, 0⟩] scope pos) spos) (sSet i .all (sLc k (own.map (·.2)) fi gt ft fe)) := by
  refine ⟨PS.weak (ps_setLc hc hN hy hyl hsw hi.pi ok (fun s H C cl fp => (hg s H C cl fp).pg) (fun s H C cl fp => (ht s H C cl fp).pt) (fun s H C cl fp => (he s H C cl fp).pe) hs) ?_⟩
  intro D σ H h
  exact lc_ok hv hq (set_core hx hm hp h)
/-- targets = value -/
@[simp] def sAsg (k : Fk) (f : En → Out Ev.D) (g : Ev.D → En → Option En) : En → Out Fl := fun e => (f e).bind fun d e1 => if okB k d = true then (match g d e1 with
  | some e2 => .ok .nx e2
  | none => .stuck) else .stuck
theorem gs_asg {vs : List Nat} (he : GE X Γ W e k fe) (hg : GG X Γ tg vs gt) (hs : swapsWithSole [tg] e pos.line X.env = pure false := by rfl) (hw : swappedStores [tg] e X.env = pure none := by rfl)
    (h1 : (assignEach [tg] X.env).map (·.2) = [assign tg X.env] := by rfl) : GS X Γ W (.Assign [tg] e pos) (sAsg k fe gt) := by
  refine ⟨PS.weak (ps_asg he.pe hg.pg hs hw h1) ?_⟩
  rintro D σ H ⟨B, F, env, ok, h⟩
  refine ⟨B, F, env, ok, oE.imp (oS.bind h) fun d e1 H1 F1 _ _ ⟨ok1, g1, h1⟩ v rv => ?_⟩
  split at h1
  · rename_i hk
    refine ⟨B, F1, e1, d, ok1, RepK.okB hk rv, ?_⟩
    cases q : gt d e1 with
    | none => rw [q] at h1; exact h1.elim
    | some e2 =>
      rw [q] at h1
      exact fun σ' _ ok2 => h1 σ' H1 F1 ok2
  · exact h1.elim
/-- a, b = x, y -/
@[simp] def sPar (i j : Nat) (k k2 : Fk) (f f2 : En → Out Ev.D) : En → Out Fl := fun e => (f e).bind fun d e1 => (f2 e1).bind fun d2 e2 => if (okB k d && okB k2 d2) = true then .ok .nx ((e2.set i (some d)).set j (some d2)) else .stuck
theorem gs_par {x y : Str} {px py pt : Pos} {kt k2 pt2} {e2 : Expr} {k' : Fk} {fe2 : En → Out Ev.D} (i j : Nat) (hc : X.calm = true) (hN : X.N.Nodup) (he : GE X Γ W e k fe) (he2 : GE X Γ W e2 k' fe2)
    (hxi : i ∉ Γ.X := by (try dsimp only); decide) (hmi : i ∉ Γ.M := by (try dsimp only); decide) (hpi : i ∉ Γ.P := by (try dsimp only); decide) (hxj : j ∉ Γ.X := by (try dsimp only); decide) (hmj : j ∉ Γ.M := by (try dsimp only); decide) (hpj : j ∉ Γ.P := by (try dsimp only); decide)
    (hi : X.N[i]? = some x := by rfl) (hj : X.N[j]? = some y := by rfl) (hij : i ≠ j := by decide)
    (hx : X.env.scope.names.lookup x = some .local := by rfl) (hy : X.env.scope.names.lookup y = some .local := by rfl)
    (hw : swappedStores [.Tuple [.Name x px, .Name y py] kt pt] (.Tuple [e, e2] k2 pt2) X.env = pure (some [x, y]) := by rfl)
    (hs : swapsWithSole [.Tuple [.Name x px, .Name y py] kt pt] (.Tuple [e, e2] k2 pt2) pos.line X.env = pure false := by rfl)
    (hs1 : starEach [e, e2] X.env = (false, eval e X.env) :: starEach [e2] X.env := by rfl) (hs2 : starEach [e2] X.env = (false, eval e2 X.env) :: starEach [] X.env := by rfl) :
    GS X Γ W (.Assign [.Tuple [.Name x px, .Name y py] kt pt] (.Tuple [e, e2] k2 pt2) pos) (sPar i j k k' fe fe2) := by
  refine ⟨PS.weak (ps_par hc hN hi hj hij hx hy (pa_cons he.pe (pa_cons he2.pe pa_nil hs2) hs1) hw hs) ?_⟩
  rintro D σ H ⟨B, F, env, ok, h⟩
  refine ⟨B, F, env, ok, oE.imp (oS.bind h) fun d e1 H1 F1 _ _ ⟨ok1, g1, h1⟩ v rv => ?_⟩
  refine ⟨B, F1, e1, ok1, oE.imp (oS.bind h1) fun d2 e2 H2 F2 _ _ ⟨ok2, g2, h2⟩ v2 rv2 => ?_⟩
  split at h2
  · rename_i hk
    rw [Bool.and_eq_true] at hk
    exact ⟨v, v2, rfl, h2 _ H2 F2 ((ok2.set hxi hmi hpi (RepK.okB hk.1 (g2.repK rv))).set hxj hmj hpj (RepK.okB hk.2 rv2))⟩
  · exact h2.elim
/-- name op= e -/
@[simp] def sAug (i : Nat) (op : Ev.D → Ev.D → Option Ev.D) (f : En → Out Ev.D) : En → Out Fl := fun e => match e[i]? with
  | some (some (.int n)) => (f e).bind fun d e1 => match op (.int n) d with
    | some r => .ok .nx (e1.set i (some r))
    | none => .stuck
  | _ => .stuck
theorem aug_core {i : Nat} {ti : TIp} {op : Ev.D → Ev.D → Option Ev.D} (hx : i ∉ Γ.X) (hm : i ∉ Γ.M) (hp : i ∉ Γ.P) (hop : ∀ (n m : Int) r (H : Hp) (Q : VK), op (.int n) (.int m) = some r → Q (vOf r) H → ti (.int n) (.int m) H Q) (hi : ∀ n d r, op (.int n) d = some r → (∃ m, d = .int m) ∧ isS r = true) {D : Ends} {σ : L2.St} {H : Hp}
    (h : tS Γ W (sAug i op fe) D σ H) : tAug i (tE Γ W k fe) ti D σ H := by
  obtain ⟨B, F, env, ok, h⟩ := h
  unfold sAug at h
  split at h
  · rename_i n e1
    obtain ⟨v, e2, so⟩ := ok.slot i _ e1
    unfold SlotOk at so
    rw [if_neg hx, if_neg hm] at so
    cases (show v = .int n from so)
    refine ⟨.int n, e2, B, F, env, ok, oE.imp (oS.bind h) fun d e3 H1 F1 _ _ ⟨ok1, g1, h1⟩ w rw' => ?_⟩
    cases q : op (.int n) d with
    | none => rw [q] at h1; exact h1.elim
    | some r =>
      rw [q] at h1
      obtain ⟨⟨m, rfl⟩, hs⟩ := hi n d r q
      cases (show w = .int m from rw'.x)
      exact hop n m r H1 _ q (h1 _ H1 F1 (ok1.set hx hm hp (rep_s hs)))
  · exact h.elim
theorem gs_augAdd {x : Str} {p : Pos} (i : Nat) (hN : X.N.Nodup) (he : GE X Γ W e k fe) (hx : i ∉ Γ.X := by (try dsimp only); decide) (hm : i ∉ Γ.M := by (try dsimp only); decide) (hp : i ∉ Γ.P := by (try dsimp only); decide) (hi : X.N[i]? = some x := by rfl) (hl : Loc X.env.scope x := by first | exact Or.inl rfl | exact Or.inr rfl)
    (hf : X.fn x = true ∨ X.env.scope.names.lookup x = some .local := by first | exact .inl rfl | exact .inr rfl) : GS X Γ W (.AugAssign (.Name x p) .Add e pos) (sAug i oAdd fe) :=
  ⟨PS.weak (ps_aug hN hi hl he.pe ip_add hf) fun _ _ _ h => aug_core hx hm hp (fun n m r H Q q k => by simp [oAdd] at q; subst q; exact ⟨n, m, rfl, rfl, k⟩) (fun n d r q => by cases d <;> simp [oAdd] at q; subst q; exact ⟨⟨_, rfl⟩, rfl⟩) h⟩

/-! while -/
def whRun (c : En → Out Bool) (b : En → Out Fl) : Nat → En → Out Fl
  | 0, _ => .stuck
  | n + 1, e => match c e with
    | .ok true e1 => match b e1 with
      | .ok .nx e2 => whRun c b n e2
      | .ok .ct e2 => whRun c b n e2
      | .ok .bk e2 => .ok .nx e2
      | .ok (.ret d) e2 => .ok (.ret d) e2
      | .raise x e2 => .raise x e2
      | .stuck => .stuck
    | .ok false e1 => .ok .nx e1
    | .raise x e1 => .raise x e1
    | .stuck => .stuck
theorem gs_while (n : Nat) (hp : PassesOwn (model X.prog X.w) X.A X.env X.xe) (hc : GT X Γ W c fc) (hb : GSs X Γ W a f) : GS X Γ W (.While c a [] pos) (whRun fc f n) := by
  refine ⟨PS.weak (ps_while hp hc.pt hb.ps) ?_⟩
  rintro D σ H ⟨B, F, env, ok, h⟩
  obtain ⟨R, hR⟩ : ∃ R, whRun fc f n env = R := ⟨_, rfl⟩
  rw [hR] at h
  refine ⟨fun m σ1 H1 => ∃ F1 e1, StOk Γ B F1 σ1 H1 e1 ∧ whRun fc f m e1 = R, ⟨n, F, env, ok, hR⟩, ?_⟩
  rintro m σ1 H1 ⟨F1, e1, ok1, hq⟩
  rw [← hq] at h
  cases m with
  | zero => exact h.elim
  | succ m =>
    unfold whRun at h
    refine ⟨B, F1, e1, ok1, ?_⟩
    cases q : fc e1 with
    | stuck => rw [q] at h; exact h
    | raise x e2 => rw [q] at h; exact fun H2 F2 ok2 g2 => h σ1 H2 F2 ok2
    | ok t e2 =>
      rw [q] at h
      intro H2 F2 ok2 g2
      cases t with
      | false => exact iteF (h σ1 H2 F2 ok2)
      | true =>
        simp only at h
        refine iteT ⟨fun σ' H' => ∃ F' e', StOk Γ B F' σ' H' e' ∧ whRun fc f m e' = R, fun σ' H' ⟨F', e', ok', q'⟩ => ⟨m, Nat.lt_succ_self m, F', e', ok', q'⟩, B, F2, e2, ok2, ?_⟩
        have hq' := hq
        unfold whRun at hq'
        rw [q] at hq'
        simp only at hq'
        cases q2 : f e2 with
        | stuck => rw [q2] at h; exact h
        | raise x e3 => rw [q2] at h; exact h
        | ok fl e3 =>
          rw [q2] at h hq'
          cases fl with
          | nx => exact fun σ' H' F' ok' => ⟨F', e3, ok', hq'⟩
          | ct => exact fun σ' H' F' ok' => ⟨F', e3, ok', hq'⟩
          | bk => exact h
          | ret d => exact h

/-! for -/
@[simp] def forRun (g : Ev.D → En → Option En) (b : En → Out Fl) : List Ev.D → En → Out Fl
  | [], e => .ok .nx e
  | d :: ds, e => match g d e with
    | none => .stuck
    | some e1 => match b e1 with
      | .ok .nx e2 => forRun g b ds e2
      | .ok .ct e2 => forRun g b ds e2
      | .ok .bk e2 => .ok .nx e2
      | .ok (.ret d) e2 => .ok (.ret d) e2
      | .raise x e2 => .raise x e2
      | .stuck => .stuck
@[simp] def sFor (fi : En → Out (List Ev.D)) (g : Ev.D → En → Option En) (b : En → Out Fl) : En → Out Fl := fun e => (fi e).bind fun ds e1 => forRun g b ds e1
def reb (B : Base) (F : Fp) (H : Hp) : Base := ⟨H, fun b => ∃ j, b ∈ F j, B.xv, B.E⟩
theorem StOk.reb {B : Base} {F : Fp} {σ : L2.St} {H : Hp} {env : En} (ok : StOk Γ B F σ H env) : StOk Γ (reb B F H) F σ H env :=
  ⟨ok.len, fun _ h => h, fun _ _ h _ => h, ok.slot, ok.disj, fun i b h => .inl ⟨i, h⟩, ok.trk, ok.xval, ok.xdef, ok.entD, ok.entF, ok.xvx, ok.newv⟩
theorem StOk.unreb {B : Base} {F F1 : Fp} {σ σ1 : L2.St} {H H1 : Hp} {env e1 : En} (ok : StOk Γ B F σ H env) (ok1 : StOk Γ (Ev.reb B F H) F1 σ1 H1 e1) : StOk Γ B F1 σ1 H1 e1 := by
  refine ⟨ok1.len, fun b h => ok1.dom b (ok.dom b h), fun b o h hw => ok1.keep b o (ok.keep b o h hw) fun m ⟨j, hj⟩ => ?_, ok1.slot, ok1.disj, fun i b hb => ?_, ok1.trk, ok1.xval, ok1.xdef, ok1.entD, ok1.entF, ok1.xvx, ok1.newv⟩
  · rcases ok.orig j b hj with z | z
    · exact hw m z
    · rw [h] at z; cases z
  · rcases ok1.orig i b hb with ⟨j, hj⟩ | z
    · exact ok.orig j b hj
    · right
      cases q : B.H b with
      | none => rfl
      | some o => exact absurd z (ok.dom b (by rw [q]; simp))
theorem gs_for {vs : List Nat} (hp : PassesOwn (model X.prog X.w) X.A X.env X.xe) (hc : X.calm = true) (hi : GI X Γ W tg iter true fi) (hg : GG X Γ tg vs gt) (hb : GSs X Γ W a f)
    (hs : ∀ x, foldedSetIterable iter X.env x = pure x := by intro _; rfl) : GS X Γ W (.For tg iter a [] pos) (sFor fi gt f) := by
  refine ⟨PS.weak (ps_for hp hc hi.pi hg.pg hb.ps hs) ?_⟩
  rintro D σ H ⟨B, F, env, ok, h⟩
  refine ⟨B, F, env, ok, oE.imp (oS.bind h) fun ds e1 H1 F1 _ _ ⟨ok1, g1, h1⟩ J G Y wk hG hY => ?_⟩
  obtain ⟨R, hR⟩ : ∃ R, forRun gt f ds e1 = R := ⟨_, rfl⟩
  rw [hR] at h1
  let Pv : Nat → L2.St → Hp → Prop := fun i σ2 H2 => ∃ F2 e, StOk Γ (reb B F1 H1) F2 σ2 H2 e ∧ forRun gt f (ds.drop i) e = R
  have kp : ∀ {i : Nat} {σ2 : L2.St} {H2 : Hp}, Pv i σ2 H2 → KeepS true Γ F1 H1 H2 := fun {i σ2 H2} ⟨F2, e, ok2, _⟩ b o hb hm => ok2.keep b o hb fun m ⟨j, hj⟩ => by
    have := hm m
    rw [if_pos rfl] at this
    exact this j hj
  refine for_it wk Pv ⟨F1, e1, ok1.reb, by rw [List.drop_zero]; exact hR⟩ (fun i σ2 H2 _ pv => hG H2 (kp pv)) (fun i x σ2 H2 H3 hi pv y => ?_) (fun σ2 H2 pv => ?_)
  · have kpv := kp pv
    obtain ⟨F2, e, ok2, hq⟩ := pv
    obtain ⟨sm, d, hd, rd⟩ := hY i H2 x H3 hi kpv y
    have ed : ds.drop i = d :: ds.drop (i + 1) := by
      obtain ⟨hi', e'⟩ := List.getElem?_eq_some_iff.mp hd
      rw [List.drop_eq_getElem_cons hi', e']
    rw [ed] at hq
    unfold forRun at hq
    rw [← hq] at h1
    have ok3 := ok2.kept sm
    have rd2 : Rep H3 (La F2) d x := rd.imp (fun _ _ q => q) fun a zs q l => ⟨q, fun j hj => by
      obtain ⟨⟨o, eo⟩, la⟩ := l
      rcases ok2.orig j a hj with ⟨j', z⟩ | z
      · exact la j' z
      · have z' : H1 a = none := z
        rw [eo] at z'; cases z'⟩
    refine ⟨reb B F1 H1, F2, e, d, ok3, rd2, ?_⟩
    cases q1 : gt d e with
    | none => rw [q1] at h1; exact h1.elim
    | some e2 =>
      rw [q1] at h1 hq
      simp only at h1 hq
      intro σ' _ ok4
      refine ⟨reb B F1 H1, F2, e2, ok4, ?_⟩
      cases q2 : f e2 with
      | stuck => rw [q2] at h1; exact h1.elim
      | raise c e3 => rw [q2] at h1; exact fun σ5 H5 F5 ok5 => h1 σ5 H5 F5 (ok1.unreb ok5)
      | ok fl e3 =>
        rw [q2] at h1 hq
        cases fl with
        | nx => exact fun σ5 H5 F5 ok5 => ⟨F5, e3, ok5, hq⟩
        | ct => exact fun σ5 H5 F5 ok5 => ⟨F5, e3, ok5, hq⟩
        | bk => exact fun σ5 H5 F5 ok5 => h1 σ5 H5 F5 (ok1.unreb ok5)
        | ret d => exact fun v σ5 H5 F5 ok5 r => h1 v σ5 H5 F5 (ok1.unreb ok5) r
  · obtain ⟨F2, e, ok2, hq⟩ := pv
    rw [List.drop_length] at hq
    unfold forRun at hq
    rw [← hq] at h1
    exact h1 σ2 H2 F2 (ok1.unreb ok2)
end
end Ev

set_option Elab.async false
set_option linter.all false
set_option maxRecDepth 100000
set_option maxHeartbeats 4000000
/-! Ev9: lists of the def's own; objects; a def by its body. -/
namespace Ev
open PySem L2

section
variable {Γ : Cy} {B : Base} {F : Fp} {σ : L2.St} {H : Hp} {env : En}
def setF (F : Fp) (i : Nat) (l : List Addr) : Fp := fun j => if j = i then l else F j
theorem setF_eq {i : Nat} {l : List Addr} : setF F i l i = l := by unfold setF; rw [if_pos rfl]
theorem setF_ne {i j : Nat} {l : List Addr} (h : j ≠ i) : setF F i l j = F j := by unfold setF; rw [if_neg h]
theorem setF_mem {i j : Nat} {l : List Addr} {b : Addr} (h : b ∈ setF F i l j) : (j = i ∧ b ∈ l) ∨ (j ≠ i ∧ b ∈ F j) := by
  unfold setF at h
  split at h
  · rename_i e; exact .inl ⟨e, h⟩
  · rename_i e; exact .inr ⟨e, h⟩
/-- a new thing at p becomes the slot i's own -/
theorem StOk.own (ok : StOk Γ B F σ H env) {i : Nat} {p : Addr} {o : HO} {d : D} (hi : i ∈ Γ.M ∨ i ∈ Γ.X) (hp' : i ∉ Γ.P) (hxv : ∀ q ∈ B.xv, q.1 ≠ i) (hp : H p = none) (hm : Mut (some o))
    (hs : ∀ F', F' i = [p] → (∀ {ds : List D} {xs : List V}, Reps H (La F) ds xs → Reps (upd H p o) (La F') ds xs) → SlotOk Γ F' (upd H p o) i d (.ref p)) :
    StOk Γ B (setF F i [p]) (σ.set i (some (.ref p))) (upd H p o) (env.set i (some d)) := by
  have hF := ok.notF hp
  have kp : ∀ b u, H b = some u → upd H p o b = some u := fun b u q => by rw [upd_ne (ne_of_none q hp)]; exact q
  have ok' := ok.alloc (o := o) hp
  have tr : ∀ {a : Addr} {u : HO}, H a = some u → La F a → La (setF F i [p]) a := fun {a u} q l j hj => by
    rcases setF_mem hj with ⟨_, z⟩ | ⟨_, z⟩
    · have e : a = p := by simpa using z
      rw [e, hp] at q; cases q
    · exact l j z
  have trs : ∀ {ds : List D} {xs : List V}, Reps H (La F) ds xs → Reps (upd H p o) (La (setF F i [p])) ds xs := fun {ds xs} r => r.imp (fun _ _ q => kp _ _ q) fun _ _ q l => ⟨kp _ _ q, tr q l⟩
  have hB : ∀ {G : Hp}, (∀ b, G b ≠ none → H b ≠ none) → G p = none := fun {G} h => by
    cases q : G p with
    | none => rfl
    | some u => exact absurd hp (h p (by rw [q]; simp))
  refine ⟨by rw [List.length_set, List.length_set]; exact ok.len, ok'.dom, ok'.keep, fun j d' e => ?_, fun j k b hne hb hb' => ?_, fun j b hb => ?_, fun j b hb => ?_, fun q hq => ?_, fun q hq hX => ?_, ok'.entD, fun j hj b hb => ?_, ok'.xvx, fun j hj a e => ok'.newv j hj a (by rwa [List.getElem?_set_ne (fun z => hp' (by rw [z]; exact hj))] at e)⟩
  · by_cases hj : i = j
    · subst hj
      have hl : i < env.length := by
        have := (List.getElem?_eq_some_iff.mp e).1
        rwa [List.length_set] at this
      rw [List.getElem?_set_self hl] at e
      cases e
      exact ⟨.ref p, List.getElem?_set_self (by rw [ok.len]; exact hl), hs _ setF_eq trs⟩
    · rw [List.getElem?_set_ne hj] at e
      obtain ⟨w, h1, h2⟩ := ok.slot j d' e
      refine ⟨w, by rw [List.getElem?_set_ne hj]; exact h1, ?_⟩
      have ej : setF F i [p] j = F j := setF_ne fun z => hj z.symm
      unfold SlotOk at h2 ⊢
      split
      · rename_i hx
        rw [if_pos hx] at h2
        rw [ej]
        exact h2.keep kp
      · rename_i hx
        rw [if_neg hx] at h2
        split
        · rename_i hm
          rw [if_pos hm] at h2
          obtain ⟨ds, a, xs, e1, e2, e3, e4, e5⟩ := h2
          exact ⟨ds, a, xs, e1, e2, ej.trans e3, kp _ _ e4, trs e5⟩
        · rename_i hm
          rw [if_neg hm] at h2
          exact h2.imp (fun _ _ q => kp _ _ q) fun _ _ q l => ⟨kp _ _ q, tr q l⟩
  · rcases setF_mem hb with ⟨rfl, z⟩ | ⟨hj, z⟩
    · have e : b = p := by simpa using z
      subst e
      rcases setF_mem hb' with ⟨rfl, _⟩ | ⟨_, z'⟩
      · exact hne rfl
      · exact hF k z'
    · rcases setF_mem hb' with ⟨rfl, z'⟩ | ⟨_, z'⟩
      · have e : b = p := by simpa using z'
        subst e
        exact hF j z
      · exact ok.disj j k b hne z z'
  · rcases setF_mem hb with ⟨_, z⟩ | ⟨_, z⟩
    · have e : b = p := by simpa using z
      subst e
      exact .inr (hB ok.dom)
    · exact ok.orig j b z
  · rcases setF_mem hb with ⟨_, z⟩ | ⟨_, z⟩
    · have e : b = p := by simpa using z
      subst e
      exact ⟨o, upd_same, hm⟩
    · exact ok'.trk j b z
  · obtain ⟨h1, h2⟩ := ok.xval q hq
    exact ⟨h1, by rw [List.getElem?_set_ne fun z => hxv q hq z.symm]; exact h2⟩
  · obtain ⟨d', h⟩ := ok.xdef q hq hX
    exact ⟨d', by rw [List.getElem?_set_ne fun z => hxv q hq z.symm]; exact h⟩
  · rcases setF_mem hb with ⟨_, z⟩ | ⟨_, z⟩
    · have e : b = p := by simpa using z
      subst e
      exact hB ok.entD
    · exact ok.entF j hj b z
theorem StOk.xv_ne (ok : StOk Γ B F σ H env) {i : Nat} (hx : i ∉ Γ.X) (hp : i ∉ Γ.P) : ∀ q ∈ B.xv, q.1 ≠ i := fun q hq e => by
  rcases (ok.xval q hq).1 with z | z
  · exact hx (e ▸ z)
  · exact hp (e ▸ z)
/-- a list of the slot i's own gets other items -/
theorem StOk.mutM (ok : StOk Γ B F σ H env) {i : Nat} {a : Addr} {xs ys : List V} {d0 : D} {ds : List D} (hx : i ∉ Γ.X) (hm : i ∈ Γ.M) (he : env[i]? = some (some d0)) (hv : σ[i]? = some (some (.ref a))) (hF : F i = [a]) (hA : H a = some (.lst xs)) (r : Reps H (La F) ds ys) :
    StOk Γ B F σ (upd H a (.lst ys)) (env.set i (some (.lst ds))) := by
  have ha : a ∈ F i := by rw [hF]; simp
  have kp : ∀ b o, b ≠ a → H b = some o → upd H a (.lst ys) b = some o := fun b o q e => by rw [upd_ne q]; exact e
  have neL : ∀ {b : Addr}, La F b → b ≠ a := fun {b} l e => l i (by rw [e]; exact ha)
  have neT : ∀ {b : Addr} {zs : FzO}, H b = some zs.1 → b ≠ a := fun {b zs} q e => by rw [e, hA] at q; exact fz_not zs (by rw [← Option.some.inj q]; trivial)
  have rs : ∀ {es : List D} {us : List V}, Reps H (La F) es us → Reps (upd H a (.lst ys)) (La F) es us := fun {es us} r => r.imp (fun _ _ q => kp _ _ (neT q) q) fun _ _ q l => ⟨kp _ _ (neL l) q, l⟩
  refine ⟨by rw [List.length_set]; exact ok.len, fun b h => upd_dom (ok.dom b h), fun b o h hw => kp b o (fun e => ?_) (ok.keep b o h hw), fun j d' e => ?_, ok.disj, ok.orig, fun j b hb => ?_, ok.xval, fun q hq hX => ?_, fun b h => upd_dom (ok.entD b h), ok.entF, ok.xvx, ok.newv⟩
  · subst e
    have q := ok.keep b o h hw
    rw [hA] at q
    cases q
    rcases ok.orig i b ha with z | z
    · exact hw trivial z
    · rw [h] at z; cases z
  · by_cases hj : i = j
    · subst hj
      have hl : i < env.length := by
        have := (List.getElem?_eq_some_iff.mp e).1
        rwa [List.length_set] at this
      rw [List.getElem?_set_self hl] at e
      cases e
      refine ⟨.ref a, hv, ?_⟩
      unfold SlotOk
      rw [if_neg hx, if_pos hm]
      exact ⟨ds, a, ys, rfl, rfl, hF, upd_same, rs r⟩
    · rw [List.getElem?_set_ne hj] at e
      obtain ⟨w, h1, h2⟩ := ok.slot j d' e
      refine ⟨w, h1, ?_⟩
      unfold SlotOk at h2 ⊢
      split
      · rename_i hxj
        rw [if_pos hxj] at h2
        refine h2.stay (fun b hb o q => kp b o (fun e => ?_) q) fun b o q nm => kp b o (fun e => ?_) q
        · rw [e] at hb
          exact ok.disj i j a hj ha hb
        · rw [e, hA] at q
          cases q
          exact nm trivial
      · rename_i hxj
        rw [if_neg hxj] at h2
        split
        · rename_i hmj
          rw [if_pos hmj] at h2
          obtain ⟨es, c, zs, e1, e2, e3, e4, e5⟩ := h2
          refine ⟨es, c, zs, e1, e2, e3, kp _ _ (fun e => ?_) e4, rs e5⟩
          refine ok.disj i j a hj ha ?_
          rw [e3, e]; simp
        · rename_i hmj
          rw [if_neg hmj] at h2
          exact h2.imp (fun _ _ q => kp _ _ (neT q) q) fun _ _ q l => ⟨kp _ _ (neL l) q, l⟩
  · obtain ⟨o, e, m⟩ := ok.trk j b hb
    by_cases q : b = a
    · rw [q]; exact ⟨_, upd_same, trivial⟩
    · exact ⟨o, kp b o q e, m⟩
  · obtain ⟨d', h⟩ := ok.xdef q hq hX
    exact ⟨d', by rw [List.getElem?_set_ne]; exact h; rintro rfl; exact hx hX⟩
theorem StOk.atM (ok : StOk Γ B F σ H env) {i : Nat} {d : D} (hx : i ∉ Γ.X) (hm : i ∈ Γ.M) (he : env[i]? = some (some d)) : ∃ ds a xs, d = .lst ds ∧ σ[i]? = some (some (.ref a)) ∧ F i = [a] ∧ H a = some (.lst xs) ∧ Reps H (La F) ds xs := by
  obtain ⟨v, e1, so⟩ := ok.slot i d he
  unfold SlotOk at so
  rw [if_neg hx, if_pos hm] at so
  obtain ⟨ds, a, xs, q1, rfl, q3, q4, q5⟩ := so
  exact ⟨ds, a, xs, q1, e1, q3, q4, q5⟩
end

/-! ### new lists -/
def tN (Γ : Cy) (W : WX) (f : En → Out (List D)) : TE := fun σ H Q => ∃ B F env, StOk Γ B F σ H env ∧
  oE Γ W B F σ H (f env) fun ds _ H' F' => ∀ p xs, H' p = none → Reps H' (Lx Γ F') ds xs → Q (.ref p) (upd H' p (.lst xs))
structure GN (X : Cx) (Γ : Cy) (W : WX) (e : Expr) (f : En → Out (List D)) : Prop where
  pe : PE X e (tN Γ W f)
@[simp] def sLim (g : En → Out (List D)) : En → Out (List D) := fun e => (g e).bind fun ds e1 => if ds.length ≤ 1000 then .ok ds e1 else .stuck
section
variable {X : Cx} {Γ : Cy} {W : WX} {pos p p2 : Pos} {e a b : Expr} {es : List Expr} {k fa fb : Fk} {al : Bool} {fe f g : En → Out D} {gl : En → Out (List D)} {x y : Str}
theorem gn_lst (h : GA X Γ W es al gl) : GN X Γ W (.List es pos) (sLim gl) := by
  refine ⟨PE.weak (pe_lst h.pa) ?_⟩
  rintro σ H Q ⟨B, F, env, ok, h⟩
  refine ⟨B, F, env, ok, oE.imp (oE.bind h) fun ds e1 H1 F1 _ _ ⟨ok1, g1, q1⟩ vs rv => ?_⟩
  split at q1
  · rename_i hl
    exact ⟨by rw [rv.length]; exact le1000 hl, fun p hp => q1.here ok1 p vs hp rv.lbX⟩
  · exact q1.elim
@[simp] def sCatL (f g : En → Out D) : En → Out (List D) := fun e => (f e).bind fun x e1 => (g e1).bind fun y e2 => match x, y with
  | .lst xs, .lst ys => if lim (xs.length + ys.length) = true then .ok (xs ++ ys) e2 else .stuck
  | _, _ => .stuck
theorem gn_add (ha : GE X Γ W a fa f) (hb : GE X Γ W b fb g) : GN X Γ W (.BinOp a .Add b pos) (sCatL f g) := by
  refine ⟨PE.weak (pe_op op_cat ha.pe hb.pe) ?_⟩
  rintro σ H Q ⟨B, F, env, ok, h⟩
  refine bin_ok ok h fun x y e2 u v H2 F2 ok2 g2 ru rv h2 => ?_
  split at h2
  · split at h2
    · rename_i hl
      obtain ⟨a, xs, rfl, hA, rA⟩ := ru.lst
      obtain ⟨b, ys, rfl, hB, rB⟩ := rv.lst
      exact ⟨a, b, xs, ys, rfl, rfl, hA, hB, by rw [rA.length, rB.length]; exact lim_le hl, fun p hp => h2.here ok2 p _ hp (rA.lbX.append rB.lbX)⟩
    · exact h2.elim
  · exact h2.elim
/-- list(a list or a tuple) -/
@[simp] def sListOf (f : En → Out D) : En → Out (List D) := fun e => (f e).bind fun x e1 => match items? x with
  | some ds => .ok ds e1
  | none => .stuck
theorem RepK.seq {k : Fk} {Hs H : Hp} {F : Fp} {d : D} {ds : List D} {v : V} (r : RepK Γ k Hs F H d v) (hi : items? d = some ds) : ∃ a xs, v = .ref a ∧ (SqL X.K H a xs ∨ SqT X.K H a xs) ∧ Reps H (LB Γ k.isAll Hs F) ds xs := by
  cases d with
  | lst es =>
    cases hi
    obtain ⟨a, xs, rfl, hA, rA⟩ := r.lst
    exact ⟨a, xs, rfl, .inl (SqL.of hA), rA⟩
  | tup es =>
    cases hi
    obtain ⟨a, xs, rfl, hA, rA⟩ := r.tup
    exact ⟨a, xs, rfl, .inr (SqT.rd hA), rA⟩
  | _ => cases hi
theorem gn_listOf (he : GE X Γ W e k fe) (hm : X.mg "list" = none) (hg : Gl X "list" := by rfl) (hs : starEach [e] X.env = (false, eval e X.env) :: starEach [] X.env := by rfl) : GN X Γ W (.Call (.Name "list" p) [e] [] pos) (sListOf fe) := by
  refine ⟨PE.weak (pe_callTy call_list_of hg hm (by decide +kernel) (pa_cons he.pe pa_nil hs) (he := hs)) ?_⟩
  rintro σ H Q ⟨B, F, env, ok, h⟩
  refine ⟨B, F, env, ok, oE.imp (oE.bind h) fun d e1 H1 F1 _ _ ⟨ok1, g1, h1⟩ v rv => ?_⟩
  cases q : items? d with
  | none => rw [q] at h1; exact h1.elim
  | some ds =>
    rw [q] at h1
    obtain ⟨a, xs, rfl, hA, rA⟩ := RepK.seq (X := X) rv q
    exact ⟨a, xs, rfl, hA, fun p hp => h1.here ok1 p xs hp rA.lbX⟩

/-! ### statements over them -/
@[simp] def sSetM (i : Nat) (f : En → Out (List D)) : En → Out Fl := fun e => (f e).bind fun ds e1 => if lfrees ds = true then .ok .nx (e1.set i (some (.lst ds))) else .stuck
theorem putM {B : Base} {F : Fp} {σ : L2.St} {H : Hp} {env : En} {i : Nat} {p : Addr} {ds : List D} {xs : List V} (ok : StOk Γ B F σ H env) (hx : i ∉ Γ.X) (hm : i ∈ Γ.M) (hp : i ∉ Γ.P) (hn : H p = none) (hl : lfrees ds = true) {L : Addr → Prop} (r : Reps H L ds xs) :
    StOk Γ B (setF F i [p]) (σ.set i (some (.ref p))) (upd H p (.lst xs)) (env.set i (some (.lst ds))) :=
  ok.own (.inl hm) hp (ok.xv_ne hx hp) hn trivial fun F' e tr => by
    unfold SlotOk
    rw [if_neg hx, if_pos hm]
    exact ⟨ds, p, xs, rfl, rfl, e, upd_same, tr (r.lf hl)⟩
theorem gs_setM (i : Nat) (hN : X.N.Nodup) (he : GN X Γ W e gl) (hx : i ∉ Γ.X := by (try dsimp only); decide) (hm : i ∈ Γ.M := by (try dsimp only); decide) (hp : i ∉ Γ.P := by (try dsimp only); decide) (hi : X.N[i]? = some x := by rfl) (hl : Loc X.env.scope x := by first | exact Or.inl rfl | exact Or.inr rfl)
    (hs : swapsWith e (some (.Name x p)) pos.line X.env = pure false := by rfl) (hf : X.fn x = true ∨ X.env.scope.names.lookup x = some .local := by first | exact .inl rfl | exact .inr rfl) : GS X Γ W (.Assign [.Name x p] e pos) (sSetM i gl) := by
  refine ⟨PS.weak (ps_set hN hi hl he.pe hs hf) ?_⟩
  rintro D σ H ⟨B, F, env, ok, h⟩
  refine ⟨B, F, env, ok, oE.imp (oS.bind h) fun ds e1 H1 F1 _ _ ⟨ok1, g1, h1⟩ p xs hn r => ?_⟩
  split at h1
  · rename_i hk
    exact h1 _ _ _ (putM ok1 hx hm hp hn hk r)
  · exact h1.elim
/-- a, b = x, [..] -/
@[simp] def sParM (i j : Nat) (k : Fk) (f : En → Out D) (g : En → Out (List D)) : En → Out Fl := fun e => (f e).bind fun d e1 => (g e1).bind fun ds e2 => if (okB k d && lfrees ds) = true then .ok .nx ((e2.set i (some d)).set j (some (.lst ds))) else .stuck
theorem gs_parM {px py pt : Pos} {kt k2 pt2} {e2 : Expr} (i j : Nat) (hc : X.calm = true) (hN : X.N.Nodup) (he : GE X Γ W e k fe) (he2 : GN X Γ W e2 gl)
    (hxi : i ∉ Γ.X := by (try dsimp only); decide) (hmi : i ∉ Γ.M := by (try dsimp only); decide) (hpi : i ∉ Γ.P := by (try dsimp only); decide) (hxj : j ∉ Γ.X := by (try dsimp only); decide) (hmj : j ∈ Γ.M := by (try dsimp only); decide) (hpj : j ∉ Γ.P := by (try dsimp only); decide)
    (hi : X.N[i]? = some x := by rfl) (hj : X.N[j]? = some y := by rfl) (hij : i ≠ j := by decide)
    (hx : X.env.scope.names.lookup x = some .local := by rfl) (hy : X.env.scope.names.lookup y = some .local := by rfl)
    (hw : swappedStores [.Tuple [.Name x px, .Name y py] kt pt] (.Tuple [e, e2] k2 pt2) X.env = pure (some [x, y]) := by rfl)
    (hs : swapsWithSole [.Tuple [.Name x px, .Name y py] kt pt] (.Tuple [e, e2] k2 pt2) pos.line X.env = pure false := by rfl)
    (hs1 : starEach [e, e2] X.env = (false, eval e X.env) :: starEach [e2] X.env := by rfl) (hs2 : starEach [e2] X.env = (false, eval e2 X.env) :: starEach [] X.env := by rfl) :
    GS X Γ W (.Assign [.Tuple [.Name x px, .Name y py] kt pt] (.Tuple [e, e2] k2 pt2) pos) (sParM i j k fe gl) := by
  refine ⟨PS.weak (ps_par hc hN hi hj hij hx hy (pa_cons he.pe (pa_cons he2.pe pa_nil hs2) hs1) hw hs) ?_⟩
  rintro D σ H ⟨B, F, env, ok, h⟩
  refine ⟨B, F, env, ok, oE.imp (oS.bind h) fun d e1 H1 F1 _ _ ⟨ok1, g1, h1⟩ v rv => ?_⟩
  refine ⟨B, F1, e1, ok1, oE.imp (oS.bind h1) fun ds e2 H2 F2 _ _ ⟨ok2, g2, h2⟩ p xs hn r => ?_⟩
  split at h2
  · rename_i hk
    rw [Bool.and_eq_true] at hk
    refine ⟨v, .ref p, rfl, h2 _ _ _ (putM (ok2.set hxi hmi hpi (RepK.okB hk.1 (g2.repK rv))) hxj hmj hpj hn hk.2 r)⟩
  · exact h2.elim
/-- j = i, a list of the def's own goes to no one -/
@[simp] def sMove (j i : Nat) : En → Out Fl := fun e => match e[i]? with
  | some (some (.lst ds)) => .ok .nx ((e.set i none).set j (some (.lst ds)))
  | _ => .stuck
theorem gs_move (j i : Nat) (hN : X.N.Nodup) (hxi : i ∉ Γ.X := by (try dsimp only); decide) (hmi : i ∈ Γ.M := by (try dsimp only); decide) (hxj : j ∉ Γ.X := by (try dsimp only); decide) (hmj : j ∉ Γ.M := by (try dsimp only); decide) (hpj : j ∉ Γ.P := by (try dsimp only); decide)
    (hi : X.N[i]? = some x := by rfl) (hj : X.N[j]? = some y := by rfl) (hv : Vis X.env.scope x := by first | exact Or.inl rfl | exact Or.inr (Or.inl rfl) | exact Or.inr (Or.inr rfl)) (hl : Loc X.env.scope y := by first | exact Or.inl rfl | exact Or.inr rfl)
    (hd : (x == ("__debug__" : Str)) = false := by decide) (hcd : (x == ("__classdict__" : Str)) = false := by decide)
    (hs : swapsWith (.Name x p) (some (.Name y p2)) pos.line X.env = pure false := by rfl) (hf : X.fn y = true ∨ X.env.scope.names.lookup y = some .local := by first | exact .inl rfl | exact .inr rfl) :
    GS X Γ W (.Assign [.Name y p2] (.Name x p) pos) (sMove j i) := by
  refine ⟨PS.weak (ps_set hN hj hl (pe_var hi hv hd hcd) hs hf) ?_⟩
  rintro D σ H ⟨B, F, env, ok, h⟩
  unfold sMove at h
  split at h
  · rename_i ds e1
    obtain ⟨ds', a, xs, q, e2, e3, e4, e5⟩ := ok.atM hxi hmi e1
    cases q
    refine ⟨_, e2, ?_⟩
    have sub : ∀ k b, b ∈ setF F i [] k → b ∈ F k := fun k b hb => by
      rcases setF_mem hb with ⟨_, z⟩ | ⟨_, z⟩
      · cases z
      · exact z
    have ok1 : StOk Γ B (setF F i []) σ H (env.set i none) := by
      refine ⟨by rw [List.length_set]; exact ok.len, ok.dom, ok.keep, fun k d e => ?_, fun k l b hne hb hb' => ok.disj k l b hne (sub k b hb) (sub l b hb'), fun k b hb => ok.orig k b (sub k b hb), fun k b hb => ok.trk k b (sub k b hb), ok.xval, fun q hq hX => ?_, ok.entD, fun k hk b hb => ok.entF k hk b (sub k b hb), ok.xvx, ok.newv⟩
      · by_cases hk : i = k
        · subst hk
          have hl : i < env.length := by
            have := (List.getElem?_eq_some_iff.mp e).1
            rwa [List.length_set] at this
          rw [List.getElem?_set_self hl] at e
          cases e
        · rw [List.getElem?_set_ne hk] at e
          obtain ⟨w, h1, h2⟩ := ok.slot k d e
          exact ⟨w, h1, h2.less (setF_ne fun z => hk z.symm) sub⟩
      · obtain ⟨d, hd⟩ := ok.xdef q hq hX
        exact ⟨d, by rw [List.getElem?_set_ne]; exact hd; rintro rfl; exact hxi hX⟩
    refine h _ H _ (ok1.set hxj hmj hpj ⟨a, xs, rfl, e4, fun k hk => ?_, e5.imp (fun _ _ q => q) fun _ _ q l => ⟨q, fun k hk => l k (sub k _ hk)⟩⟩)
    by_cases hik : i = k
    · subst hik
      rw [setF_eq] at hk; cases hk
    · exact ok.disj i k a hik (by rw [e3]; simp) (sub k a hk)
  · exact h.elim

/-! append, extend, store at a place -/
@[simp] def atLst (e : En) (i : Nat) : Option (List D) := match e[i]? with
  | some (some (.lst ds)) => some ds
  | _ => none
theorem atLst_eq {e : En} {i : Nat} {ds : List D} (h : atLst e i = some ds) : e[i]? = some (some (.lst ds)) := by
  unfold atLst at h
  split at h
  · cases h; assumption
  · cases h
@[simp] def sApp (i : Nat) (f : En → Out D) : En → Out Fl := fun e => match atLst e i with
  | none => .stuck
  | some _ => (f e).bind fun d e1 => match atLst e1 i with
    | none => .stuck
    | some ds => if (lfree d && lim ds.length) = true then .ok .nx (e1.set i (some (.lst (ds ++ [d])))) else .stuck
theorem gs_append {apos cpos : Pos} (i : Nat) (he : GE X Γ W e k fe) (hx : i ∉ Γ.X := by (try dsimp only); decide) (hm : i ∈ Γ.M := by (try dsimp only); decide) (hi : X.N[i]? = some x := by rfl) (hv : Vis X.env.scope x := by first | exact Or.inl rfl | exact Or.inr (Or.inl rfl) | exact Or.inr (Or.inr rfl))
    (hd : (x == ("__debug__" : Str)) = false := by decide) (hcd : (x == ("__classdict__" : Str)) = false := by decide)
    (hs1 : starEach [e] X.env = (false, eval e X.env) :: starEach [] X.env := by rfl)
    (hPE : ∀ {ta : TE} {t : TA}, PE X (.Name x p) ta → PA X [e] t → PE X (.Call (.Attribute (.Name x p) "append" apos) [e] [] cpos) (tBM X.K "list" rAppend ta t) := by exact fun h1 h2 => pe_bm PySem.F.plainAttrs_list PySem.F.slot_list_append PySem.F.type_list_append mt_append h1 h2)
    (hs : swapsWith (.Call (.Attribute (.Name x p) "append" apos) [e] [] cpos) none pos.line X.env = pure false := by rfl) :
    GS X Γ W (.Expr (.Call (.Attribute (.Name x p) "append" apos) [e] [] cpos) pos) (sApp i fe) := by
  refine ⟨PS.weak (ps_expr (hPE (pe_var hi hv hd hcd) (pa_cons he.pe pa_nil hs1)) hs) ?_⟩
  rintro D σ H ⟨B, F, env, ok, h⟩
  unfold sApp at h
  cases q0 : atLst env i with
  | none => rw [q0] at h; exact h.elim
  | some ds0 =>
    rw [q0] at h
    obtain ⟨_, a, xs0, _, e2, e3, e4, _⟩ := ok.atM hx hm (atLst_eq q0)
    refine ⟨_, e2, .inl ⟨rfl, _, .inl (.inl e4)⟩, B, F, env, ok, oE.imp (oS.bind h) fun d e1 H1 F1 _ _ ⟨ok1, g1, h1⟩ v rv => ?_⟩
    cases q1 : atLst e1 i with
    | none => rw [q1] at h1; exact h1.elim
    | some ds =>
      rw [q1] at h1
      simp only at h1
      split at h1
      · rename_i hk
        rw [Bool.and_eq_true] at hk
        obtain ⟨_, a', xs, q, e5, e6, e7, e8⟩ := ok1.atM hx hm (atLst_eq q1)
        cases q
        rw [e2] at e5
        cases e5
        refine ⟨a, xs, v, rfl, rfl, e7, by rw [e8.length]; exact Nat.lt_of_le_of_lt (of_decide_eq_true hk.2) (by decide), h1 σ _ F1 (ok1.mutM hx hm (atLst_eq q1) e2 e6 e7 (e8.append (Reps.one (rv.x.lf hk.1))))⟩
      · exact h1.elim
@[simp] def sExt (i : Nat) (f : En → Out D) : En → Out Fl := fun e => match atLst e i with
  | none => .stuck
  | some _ => (f e).bind fun d e1 => match atLst e1 i, d with
    | some ds, .lst es => if (lfrees es && lim (ds.length + es.length)) = true then .ok .nx (e1.set i (some (.lst (ds ++ es)))) else .stuck
    | _, _ => .stuck
theorem gs_extend {apos cpos : Pos} (i : Nat) (he : GE X Γ W e k fe) (hx : i ∉ Γ.X := by (try dsimp only); decide) (hm : i ∈ Γ.M := by (try dsimp only); decide) (hi : X.N[i]? = some x := by rfl) (hv : Vis X.env.scope x := by first | exact Or.inl rfl | exact Or.inr (Or.inl rfl) | exact Or.inr (Or.inr rfl))
    (hd : (x == ("__debug__" : Str)) = false := by decide) (hcd : (x == ("__classdict__" : Str)) = false := by decide)
    (hs1 : starEach [e] X.env = (false, eval e X.env) :: starEach [] X.env := by rfl)
    (hPE : ∀ {ta : TE} {t : TA}, PE X (.Name x p) ta → PA X [e] t → PE X (.Call (.Attribute (.Name x p) "extend" apos) [e] [] cpos) (tBM X.K "list" rExtend ta t) := by exact fun h1 h2 => pe_bm PySem.F.plainAttrs_list PySem.F.slot_list_extend PySem.F.type_list_extend mt_extend h1 h2)
    (hs : swapsWith (.Call (.Attribute (.Name x p) "extend" apos) [e] [] cpos) none pos.line X.env = pure false := by rfl) :
    GS X Γ W (.Expr (.Call (.Attribute (.Name x p) "extend" apos) [e] [] cpos) pos) (sExt i fe) := by
  refine ⟨PS.weak (ps_expr (hPE (pe_var hi hv hd hcd) (pa_cons he.pe pa_nil hs1)) hs) ?_⟩
  rintro D σ H ⟨B, F, env, ok, h⟩
  unfold sExt at h
  cases q0 : atLst env i with
  | none => rw [q0] at h; exact h.elim
  | some ds0 =>
    rw [q0] at h
    obtain ⟨_, a, xs0, _, e2, e3, e4, _⟩ := ok.atM hx hm (atLst_eq q0)
    refine ⟨_, e2, .inl ⟨rfl, _, .inl (.inl e4)⟩, B, F, env, ok, oE.imp (oS.bind h) fun d e1 H1 F1 _ _ ⟨ok1, g1, h1⟩ v rv => ?_⟩
    cases q1 : atLst e1 i with
    | none => rw [q1] at h1; exact h1.elim
    | some ds =>
      cases d with
      | lst es =>
        rw [q1] at h1
        simp only at h1
        split at h1
        · rename_i hk
          rw [Bool.and_eq_true] at hk
          obtain ⟨_, a', xs, q, e5, e6, e7, e8⟩ := ok1.atM hx hm (atLst_eq q1)
          cases q
          rw [e2] at e5
          cases e5
          obtain ⟨b, zs, rfl, hB, rB⟩ := rv.lst
          refine ⟨a, b, xs, zs, rfl, rfl, e7, hB, by rw [e8.length, rB.length]; exact lim_le hk.2, h1 σ _ F1 (ok1.mutM hx hm (atLst_eq q1) e2 e6 e7 (e8.append (rB.lf hk.1)))⟩
        · exact h1.elim
      | _ => rw [q1] at h1; exact h1.elim
/-- xs[i] = e, e first -/
@[simp] def sSetI (i : Nat) (f g : En → Out D) : En → Out Fl := fun e => (f e).bind fun d e1 => match atLst e1 i with
  | none => .stuck
  | some _ => (g e1).bind fun n e2 => match atLst e2 i, n with
    | some ds, .int m => match ixN ds.length m with
      | some j => if lfree d = true then .ok .nx (e2.set i (some (.lst (ds.set j d)))) else .stuck
      | none => .stuck
    | _, _ => .stuck
theorem gs_setI {ix : Expr} {ki : Fk} {fi : En → Out D} (i : Nat) (he : GE X Γ W e k fe) (hix : GE X Γ W ix ki fi) (hx : i ∉ Γ.X := by (try dsimp only); decide) (hm : i ∈ Γ.M := by (try dsimp only); decide) (hi : X.N[i]? = some x := by rfl) (hv : Vis X.env.scope x := by first | exact Or.inl rfl | exact Or.inr (Or.inl rfl) | exact Or.inr (Or.inr rfl))
    (hd : (x == ("__debug__" : Str)) = false := by decide) (hcd : (x == ("__classdict__" : Str)) = false := by decide)
    (hPS : ∀ {te to ti : TE}, PE X e te → PE X (.Name x p) to → PE X ix ti → PS X (.Assign [.Subscript (.Name x p) ix p2] e pos) (tAsg te (gSub to ti rSetL)) := by exact fun h1 h2 h3 => ps_asg h1 (pg_sub h2 h3 set_list)) :
    GS X Γ W (.Assign [.Subscript (.Name x p) ix p2] e pos) (sSetI i fe fi) := by
  refine ⟨PS.weak (hPS he.pe (pe_var hi hv hd hcd) hix.pe) ?_⟩
  rintro D σ H ⟨B, F, env, ok, h⟩
  refine ⟨B, F, env, ok, oE.imp (oS.bind h) fun d e1 H1 F1 _ _ ⟨ok1, g1, h1⟩ v rv => ?_⟩
  cases q0 : atLst e1 i with
  | none => rw [q0] at h1; exact h1.elim
  | some ds0 =>
    rw [q0] at h1
    obtain ⟨_, a, xs0, _, e2, e3, e4, _⟩ := ok1.atM hx hm (atLst_eq q0)
    refine ⟨_, e2, B, F1, e1, ok1, oE.imp (oS.bind h1) fun n e2' H2 F2 _ _ ⟨ok2, g2, h2⟩ w rw' => ?_⟩
    cases q1 : atLst e2' i with
    | none => rw [q1] at h2; exact h2.elim
    | some ds =>
      cases n with
      | int m =>
        rw [q1] at h2
        simp only at h2
        cases q2 : ixN ds.length m with
        | none => rw [q2] at h2; exact h2.elim
        | some j =>
          rw [q2] at h2
          simp only at h2
          split at h2
          · rename_i hk
            obtain ⟨_, a', xs, q, e5, e6, e7, e8⟩ := ok2.atM hx hm (atLst_eq q1)
            cases q
            rw [e2] at e5
            cases e5
            exact ⟨a, xs, m, j, rfl, rw'.x, e7, by rw [e8.length]; exact q2, h2 σ _ F2 (ok2.mutM hx hm (atLst_eq q1) e2 e6 e7 (e8.set j ((g2.repK rv).x.lf hk)))⟩
          · exact h2.elim
      | _ => rw [q1] at h2; exact h2.elim
end
end Ev

set_option Elab.async false
set_option linter.all false
set_option maxRecDepth 100000
set_option maxHeartbeats 4000000
/-! Ev10: a def by its body. -/
namespace Ev
open PySem L2

@[simp] def initE (n : Nat) (ds : List D) : En := ds.map some ++ List.replicate (n - ds.length) none
/-- the first n slots as they stand -/
@[simp] def backX (xm : List Nat) (n : Nat) (e : En) : List D := if xm = [] then [] else (List.range n).map fun i => match e[i]? with
  | some (some d) => d
  | _ => .non
@[simp] def outC (xm : List Nat) (n : Nat) (o : Out Fl) : COut := match o with
  | .ok (.ret d) e => .ok d (backX xm n e)
  | .ok .nx e => .ok .non (backX xm n e)
  | .raise c e => .raise c (backX xm n e)
  | _ => .stuck
theorem initE_get {n i : Nat} {ds : List D} {d : D} (h : (initE n ds)[i]? = some (some d)) : ds[i]? = some d := by
  unfold initE at h
  by_cases hi : i < ds.length
  · rw [List.getElem?_append_left (by simpa using hi), List.getElem?_map] at h
    cases q : ds[i]? with
    | none => rw [q] at h; cases h
    | some d' => rw [q] at h; cases h; rfl
  · rw [List.getElem?_append_right (by simpa using hi), List.getElem?_replicate] at h
    split at h <;> cases h
theorem initE_of {n i : Nat} {ds : List D} {d : D} (h : ds[i]? = some d) : (initE n ds)[i]? = some (some d) := by
  unfold initE
  rw [List.getElem?_append_left (by simpa using (List.getElem?_eq_some_iff.mp h).1), List.getElem?_map, h]
  rfl
theorem start_get {N : List Str} {vs : List V} {i : Nat} {v : V} (h : vs[i]? = some v) : (L2.start N vs)[i]? = some (some v) := by
  unfold L2.start
  rw [List.getElem?_append_left (by simpa using (List.getElem?_eq_some_iff.mp h).1), List.getElem?_map, h]
  rfl
theorem start_lt {N : List Str} {vs : List V} {i : Nat} {v : V} (h : (L2.start N vs)[i]? = some (some v)) : i < vs.length := by
  unfold L2.start at h
  by_cases hi : i < vs.length
  · exact hi
  · rw [List.getElem?_append_right (by simpa using hi), List.getElem?_replicate] at h
    split at h <;> cases h
/-- what is wanted of an exception that leaves a def -/
abbrev WD (E : XK) : WX := fun cls d _ H => E cls d H
section
variable {P : Program} {w : World} {K : PySem.W.Frag} {mg : Str → Option Value} {base : Heap} {C : Addr} {exc : Nat → Addr}
theorem fn_ok {x qual : Str} {st : Stmt} {fa : Addr} {fd : FuncData} {N ps : List Str} {n kk : Nat} {xm M Xl Pn : List Nat} {f : En → Out Fl} (Fn : Fun K x qual st fa fd) (S : FnScope N ps (defScope st))
    (hps : ps.length = n) (hM : ∀ i ∈ M, n ≤ i) (hXl : ∀ i ∈ Xl, n ≤ i) (hPn : ∀ i ∈ Pn, n ≤ i)
    (hbody : ∀ (cdv : Value) (A : Around) (outer : List PySem.Env) (s : Shared) (H : Hp) (E : XK), Room kk (A.deeper (PyProof.Rows.envOfC qual (defScope st) s.heap.objs.size fa cdv)) →
      GSs (cxOf (L2.CX P w) P w K mg base N qual (defScope st) fa cdv A outer s H E) ⟨M, xm ++ Xl, exc, C, Pn⟩ (WD E) (defBody st) f) :
    FnOk P w K mg base (L2.CX P w) (kk + 1) fa fd ps (spD C exc n xm (fun ds => outC xm n (f (initE N.length ds)))) := by
  refine Fn.okX S (fun vs H Q E h => ?_) (fun cdv A outer s H vs Q E hr h => ?_)
  · obtain ⟨ds, F, hl, args, _⟩ := h
    rw [args.len, hl, hps]
  · obtain ⟨ds, F, hl, args, hΦ⟩ := h
    have hnN : n ≤ N.length := by
      have := congrArg List.length S.pre
      rw [List.length_take] at this
      omega
    let Γ : Cy := ⟨M, xm ++ Xl, exc, C, Pn⟩
    have hX : ∀ {i : Nat}, i ∈ xm → i ∈ Γ.X := fun {i} h => List.mem_append_left _ h
    have Fx : ∀ {i b : Nat}, b ∈ F i → i ∈ xm := fun {i b} hb => by
      by_cases hi : i ∈ xm
      · exact hi
      · rw [args.emp i hi] at hb; cases hb
    let xv : List (Nat × V) := xm.filterMap fun i => (vs[i]?).map fun v => (i, v)
    have xv_mem : ∀ {p : Nat × V}, p ∈ xv → p.1 ∈ xm ∧ vs[p.1]? = some p.2 := fun {p} hp => by
      obtain ⟨i, hi, e⟩ := List.mem_filterMap.mp hp
      cases q : vs[i]? with
      | none => rw [q] at e; cases e
      | some v =>
        rw [q] at e
        cases e
        exact ⟨hi, q⟩
    have xv_of : ∀ {i : Nat}, i ∈ xm → ∃ v, vs[i]? = some v ∧ (i, v) ∈ xv := fun {i} hi => by
      have hlt : i < vs.length := by rw [args.len]; exact args.low i hi
      refine ⟨vs[i], by simp [hlt], List.mem_filterMap.mpr ⟨i, hi, by simp [hlt]⟩⟩
    let B : Base := ⟨H, fun b => ∃ j, b ∈ F j, xv, H⟩
    have ok0 : StOk Γ B F (L2.start N vs) H (initE N.length ds) := by
      refine ⟨?_, fun _ h => h, fun _ _ h _ => h, fun i d e => ?_, args.disj, fun i b hb => .inl ⟨i, hb⟩, fun i b hb => ?_, fun p hp => ?_, fun p hp _ => ?_, fun _ h => h, fun i hi b hb => ?_, fun p hp => hX (xv_mem hp).1, fun i hi a e => absurd (start_lt e) (by have := hPn i hi; have := args.len; omega)⟩
      · unfold L2.start initE
        rw [List.length_append, List.length_append, List.length_map, List.length_map, List.length_replicate, List.length_replicate, args.len]
      · have e1 := initE_get e
        have hi : i < n := by rw [← hl]; exact (List.getElem?_eq_some_iff.mp e1).1
        obtain ⟨v, h1, h2⟩ := args.arg i d e1
        refine ⟨v, start_get h1, ?_⟩
        unfold SlotOk
        by_cases hx : i ∈ xm
        · rw [if_pos hx] at h2
          rw [if_pos (hX hx)]
          exact h2
        · rw [if_neg hx] at h2
          rw [if_neg (fun z => (List.mem_append.mp z).elim hx fun z => absurd (hXl i z) (by omega)), if_neg (fun z => absurd (hM i z) (by omega))]
          exact h2
      · have hx := Fx hb
        obtain ⟨v, h1, h2⟩ := args.arg i (ds[i]'(args.low i hx)) (by simp)
        rw [if_pos hx] at h2
        exact h2.trk b hb
      · obtain ⟨h1, h2⟩ := xv_mem hp
        exact ⟨.inl (hX h1), start_get h2⟩
      · obtain ⟨h1, h2⟩ := xv_mem hp
        exact ⟨_, initE_of (d := ds[p.1]'(args.low _ h1)) (by simp)⟩
      · exact absurd (hX (Fx hb)) hi
    refine ⟨_, (hbody cdv A outer s H E hr).ps, B, F, initE N.length ds, ok0, ?_⟩
    have fin : ∀ {σ' : L2.St} {H' : Hp} {F' : Fp} {e : En}, StOk Γ B F' σ' H' e → ∃ F2 : Fp, Go (gc C exc xm) F H F2 H' ∧ XBack C xm vs H (backX xm n e) H' F F2 ∧ ∀ a, H a = none → (∀ i ∈ Γ.X, a ∉ F' i) → Lf H F2 a := by
      intro σ' H' F' e ok
      let F2 : Fp := fun i => if i ∈ xm then F' i else []
      have F2_in : ∀ {i : Nat}, i ∈ xm → F2 i = F' i := fun {i} hi => by show (if i ∈ xm then F' i else []) = _; rw [if_pos hi]
      have F2_out : ∀ {i : Nat}, i ∉ xm → F2 i = [] := fun {i} hi => by show (if i ∈ xm then F' i else []) = _; rw [if_neg hi]
      have F2_mem : ∀ {i b : Nat}, b ∈ F2 i → i ∈ xm ∧ b ∈ F' i := fun {i b} hb => by
        by_cases hi : i ∈ xm
        · rw [F2_in hi] at hb; exact ⟨hi, hb⟩
        · rw [F2_out hi] at hb; cases hb
      refine ⟨F2, ⟨fun b o hb hm => ok.keep b o hb fun m ⟨j, hj⟩ => hm m j (Fx hj) hj, ok.dom, fun i hi => ?_, fun i hi b hb => ?_⟩, ⟨fun i hi => ?_, fun i j b hne hb hb' => ok.disj i j b hne (F2_mem hb).2 (F2_mem hb').2, fun i hi => F2_out hi⟩, fun a hn l => ⟨hn, fun i hb => l i (hX (F2_mem hb).1) (F2_mem hb).2⟩⟩
      · rw [F2_out hi, args.emp i hi]
      · rcases ok.orig i b (F2_mem hb).2 with ⟨j, hj⟩ | z
        · exact .inl ⟨j, Fx hj, hj⟩
        · exact .inr z
      · obtain ⟨v, hv, hm⟩ := xv_of hi
        obtain ⟨_, h2⟩ := ok.xval _ hm
        obtain ⟨d, h3⟩ := ok.xdef _ hm (hX hi)
        obtain ⟨v', h4, h5⟩ := ok.slot i d h3
        have h2' : σ'[i]? = some (some v) := h2
        rw [h2'] at h4
        cases h4
        unfold SlotOk at h5
        rw [if_pos (hX hi)] at h5
        have hin : i < n := by rw [← hl]; exact args.low i hi
        refine ⟨d, v, ?_, hv, by rw [F2_in hi]; exact h5⟩
        unfold backX
        rw [if_neg (by rintro rfl; cases hi), List.getElem?_map, List.getElem?_range hin]
        have h3' : e[i]? = some (some d) := h3
        simp only [Option.map_some, h3']
    have hΦ' : match outC xm n (f (initE N.length ds)) with
      | .ok d xs => ∀ v H' F', Go (gc C exc xm) F H F' H' → XBack C xm vs H xs H' F F' → Rep H' (Lf H F') d v → Q v H'
      | .raise c xs => ∀ H' F', Go (gc C exc xm) F H F' H' → XBack C xm vs H xs H' F F' → E (.ref (exc c)) none H'
      | .stuck => False := hΦ
    cases q : f (initE N.length ds) with
    | stuck => rw [q] at hΦ'; exact hΦ'
    | raise c e =>
      rw [q] at hΦ'
      intro σ' H' F' ok
      obtain ⟨F2, g2, b2, _⟩ := fin ok
      exact hΦ' H' F2 g2 b2
    | ok fl e =>
      rw [q] at hΦ'
      cases fl with
      | nx =>
        intro σ' H' F' ok
        obtain ⟨F2, g2, b2, _⟩ := fin ok
        exact hΦ' .non H' F2 g2 b2 rfl
      | ret d =>
        intro v σ' H' F' ok r
        obtain ⟨F2, g2, b2, l2⟩ := fin ok
        exact hΦ' v H' F2 g2 b2 (r.imp (fun _ _ q => q) fun a xs q l => ⟨q, l2 a l.1 l.2⟩)
      | bk => exact hΦ'.elim
      | ct => exact hΦ'.elim
theorem fn_def {x qual : Str} {st : Stmt} {fa : Addr} {fd : FuncData} {N ps : List Str} {n kk : Nat} {xm M Xl Pn : List Nat} {f : En → Out Fl} (Fn : Fun K x qual st fa fd) (S : FnScope N ps (defScope st)) (hmg : mg x = some (.ref fa)) (hb : Binds K fd ps [])
    (hps : ps.length = n) (hM : ∀ i ∈ M, n ≤ i) (hXl : ∀ i ∈ Xl, n ≤ i) (hPn : ∀ i ∈ Pn, n ≤ i)
    (hbody : ∀ (cdv : Value) (A : Around) (outer : List PySem.Env) (s : Shared) (H : Hp) (E : XK), Room kk (A.deeper (PyProof.Rows.envOfC qual (defScope st) s.heap.objs.size fa cdv)) →
      GSs (cxOf (L2.CX P w) P w K mg base N qual (defScope st) fa cdv A outer s H E) ⟨M, xm ++ Xl, exc, C, Pn⟩ (WD E) (defBody st) f) :
    FnD P w K mg base C exc x (kk + 1) n xm (fun ds => outC xm n (f (initE N.length ds))) :=
  ⟨fa, fd, ps, fn_ok Fn S hps hM hXl hPn hbody, hmg, Fn.kp, hb⟩
theorem FnD.imp {x : Str} {kk n : Nat} {xm : List Nat} {Φ Φ' : List D → COut} (h : FnD P w K mg base C exc x kk n xm Φ) (hi : ∀ ds, ds.length = n → Φ' ds = .stuck ∨ Φ ds = Φ' ds) : FnD P w K mg base C exc x kk n xm Φ' := by
  obtain ⟨fa, fd, ps, h1, h2⟩ := h.ex
  refine ⟨fa, fd, ps, h1.imp fun vs H Q E q => ?_, h2⟩
  obtain ⟨ds, F, hl, args, hΦ⟩ := q
  refine ⟨ds, F, hl, args, ?_⟩
  rcases hi ds hl with z | z
  · rw [z] at hΦ; exact hΦ.elim
  · rw [z]; exact hΦ
theorem FnD.mono {x : Str} {kk k' n : Nat} {xm : List Nat} {Φ : List D → COut} (h : FnD P w K mg base C exc x kk n xm Φ) (hk : kk ≤ k') : FnD P w K mg base C exc x k' n xm Φ := by
  obtain ⟨fa, fd, ps, h1, h2⟩ := h.ex
  exact ⟨fa, fd, ps, h1.mono hk, h2⟩
end
end Ev

set_option Elab.async false
set_option linter.all false
set_option maxRecDepth 100000
set_option maxHeartbeats 4000000
/-! EvS: sorted of a list or a tuple, of ints or of tuples of ints of any lengths. -/
namespace EvS
open PySem PyProof.Rows SrtO Srt
section
variable {prog : Program} {w : World} {A : Around} {E : Value → Shared → Prop} {s : Shared}
theorem collect_tup {l : Addr} {vs : List Value} {Q : List Value → Shared → Prop} (hl : IsTup s.heap l vs.toArray)
    (h : Q vs { s with heap := (s.heap.push (seqObj "list" #[] 0)).update s.heap.objs.size (Obj.mapSeq (· ++ vs.toArray)) }) (hsz : vs.length ≤ sizeLine) :
    wpAny (model prog w) A (collect (.ref l)) Q E s := by
  obtain ⟨o, ho, hc, n, hd⟩ := id hl
  unfold collect
  refine wpAny_bind (wpAny_runValue (codeAny_builtin entry_proto_collect' ?_))
  show wpAny _ _ (do again (.builtin "list.__iadd__" ⟨[← newList [], .ref l], []⟩)) _ _ s
  refine wpAny_bind (wpAny_newList (wpAny_pure ⟨Code.quiet_builtin _ (by decide +kernel), codeAny_builtin entry_list_iadd' ?_⟩))
  show wpAny _ _ (Builtin.List.listExtendWith (.ref s.heap.objs.size) (.ref l) (.ref s.heap.objs.size)) _ _ { s with heap := s.heap.push (seqObj "list" #[] 0) }
  unfold Builtin.List.listExtendWith
  have ho' : (s.heap.push (seqObj "list" #[] 0)).get? l = some o := Heap.get?_push_of_some _ ho
  refine wpAny_bind (wpAny_typeOf (T := "tuple") ⟨o, ho', hc⟩ ?_)
  have ht : (Value.type "tuple" == Value.type "tuple") = true := by rfl
  rw [if_pos (by rw [ht]; simp)]
  refine wpAny_bind (listItems_at ho' hd ?_)
  refine wpAny_bind (listItems_at (xs := #[]) (n := 0) (Heap.get?_push_size _ rfl) rfl ?_)
  rw [if_neg (by simp)]
  refine wpAny_bind (listUpdate_at (xs := #[]) (n := 0) (Heap.get?_push_size _ rfl) rfl ?_ (Nat.zero_le _) (by show (#[] ++ vs.toArray).size ≤ sizeLine + 1; simp only [Array.size_append, List.size_toArray, List.length_nil]; omega))
  refine wpAny_pure ?_
  show wpAny (model prog w) A (do
      let o ← load s.heap.objs.size
      match o.data with
      | .seq xs _ => pure xs.toList
      | _ => unsupported "internal:collect") Q E { s with heap := (s.heap.push (seqObj "list" #[] 0)).update s.heap.objs.size (Obj.mapSeq (· ++ vs.toArray)) }
  refine wpAny_bind (wpAny_load (get?_update_seq (Heap.get?_push_size _ rfl) _) ?_)
  show wpAny _ _ (pure ((#[] : Array Value) ++ vs.toArray).toList) Q E _
  rw [show ((#[] : Array Value) ++ vs.toArray).toList = vs by simp]
  exact wpAny_pure h
theorem sorted_ordT {l : Addr} {vs : List Value} {ltv : Value → Value → Bool} {Q : Value → Shared → Prop} (O : Swo ltv) (hl : IsTup s.heap l vs.toArray) (hz : vs.length ≤ sizeLine)
    (hS : 2 ≤ vs.length → ∀ (h₁ : Heap) (a : Addr), h₁.get? a = some (seqObj "list" vs.toArray 0) → (∀ b o, s.heap.get? b = some o → b ≠ a ∧ h₁.get? b = some o) → SortableO prog w A.in1.in1 { s with heap := h₁ } a vs ltv)
    (h : ∀ out : List Value, Srtd ltv out → Stb ltv out vs → Q (.ref (s.heap.objs.size + 1)) { s with heap := sortedAll s.heap vs out.toArray }) :
    wpAny (model prog w) A (call (.builtin "sorted") [.ref l]) Q E s := by
  refine Calls.call_function_entry kind_sorted plain_sorted entry_sorted (args_sorted1 _) ?_
  unfold Builtin.«sorted»
  refine wpAny_bind (m := checkCount "sorted" 1 1 _) (wpAny_pure ?_)
  refine wpAny_bind (collect_tup hl ?_ hz)
  refine wpAny_bind (wpAny_newList ?_ hz)
  have hsz : ((s.heap.push (seqObj "list" #[] 0)).update s.heap.objs.size (Obj.mapSeq (· ++ vs.toArray))).objs.size = s.heap.objs.size + 1 := by
    rw [Heap.size_update, size_push']
  have hoL : (((s.heap.push (seqObj "list" #[] 0)).update s.heap.objs.size (Obj.mapSeq (· ++ vs.toArray))).push (seqObj "list" vs.toArray 0)).get? (s.heap.objs.size + 1) = some (seqObj "list" vs.toArray 0) := by
    rw [← hsz]; exact Heap.get?_push_size _ rfl
  have keep : ∀ b o, s.heap.get? b = some o → b ≠ s.heap.objs.size + 1 ∧ (((s.heap.push (seqObj "list" #[] 0)).update s.heap.objs.size (Obj.mapSeq (· ++ vs.toArray))).push (seqObj "list" vs.toArray 0)).get? b = some o := fun b o q => by
    have hlt : b < s.heap.objs.size := Heap.lt_size q
    refine ⟨Nat.ne_of_lt (Nat.lt_succ_of_lt hlt), Heap.get?_push_of_some _ ?_⟩
    rw [Heap.get?_update_ne _ _ _ _ (Nat.ne_of_lt hlt)]
    exact Heap.get?_push_of_some _ q
  show wpAny _ _ _ _ _ { s with heap := ((s.heap.push (seqObj "list" #[] 0)).update s.heap.objs.size (Obj.mapSeq (· ++ vs.toArray))).push (seqObj "list" vs.toArray 0) }
  rw [hsz]
  refine wpAny_bind (wpAny_holding (wpAny_call_entry slot_list_sort ⟨_, hoL, rfl⟩ entry_list_sort (list_sort_ord O hoL hz (fun h2 => hS h2 _ _ hoL keep) fun out hs hb => ⟨_, rfl, ?_⟩) (args_list_sort _)))
  exact wpAny_pure ⟨_, rfl, h out hs hb⟩

/-! ### tuples of ints, by their items -/
abbrev lx : List Int → List Int → Bool := HT.lexLt
theorem lx_asym : ∀ x y : List Int, lx x y = true → lx y x = false
  | [], [], _ => rfl
  | [], _ :: _, _ => rfl
  | _ :: _, [], h => by simp [HT.lexLt] at h
  | a :: x, b :: y, h => by
    simp only [HT.lexLt] at h ⊢
    split at h
    · rename_i e
      rw [if_pos e.symm]
      exact lx_asym x y h
    · rename_i e
      rw [if_neg (fun z => e z.symm)]
      have := of_decide_eq_true h
      exact decide_eq_false (by omega)
theorem lx_tr : ∀ x y z : List Int, lx y x = false → lx z y = false → lx z x = false
  | [], _, [], _, _ => rfl
  | [], _, _ :: _, _, _ => rfl
  | _ :: _, [], _, h, _ => by simp [HT.lexLt] at h
  | _ :: _, _ :: _, [], _, h => by simp [HT.lexLt] at h
  | a :: x, b :: y, c :: z, h1, h2 => by
    simp only [HT.lexLt] at h1 h2 ⊢
    split at h1
    · rename_i e
      split at h2
      · rename_i e2
        rw [if_pos (e2.trans e)]
        exact lx_tr x y z h1 h2
      · rename_i e2
        have := of_decide_eq_false h2
        rw [if_neg (by omega)]
        exact decide_eq_false (by omega)
    · rename_i e
      have q1 := of_decide_eq_false h1
      split at h2
      · rename_i e2
        rw [if_neg (by omega)]
        exact decide_eq_false (by omega)
      · rename_i e2
        have q2 := of_decide_eq_false h2
        rw [if_neg (by omega)]
        exact decide_eq_false (by omega)
theorem lx_anti : ∀ x y : List Int, lx x y = false → lx y x = false → x = y
  | [], [], _, _ => rfl
  | [], _ :: _, h, _ => by simp [HT.lexLt] at h
  | _ :: _, [], _, h => by simp [HT.lexLt] at h
  | a :: x, b :: y, h1, h2 => by
    simp only [HT.lexLt] at h1 h2
    by_cases e : a = b
    · rw [if_pos e] at h1
      rw [if_pos e.symm] at h2
      rw [e, lx_anti x y h1 h2]
    · rw [if_neg e] at h1
      rw [if_neg (fun z => e z.symm)] at h2
      have q1 := of_decide_eq_false h1
      have q2 := of_decide_eq_false h2
      exact absurd (by omega) e
theorem swo_lx (k : Value → List Int) : Swo fun v u => lx (k v) (k u) := ⟨fun x y h => lx_asym _ _ h, fun x y z h1 h2 => lx_tr _ _ _ h1 h2⟩
def IsT (h : Heap) (v : Value) (ns : List Int) : Prop := ∃ (a : Addr) (o : Obj) (its : List Value) (n : Nat), v = .ref a ∧ h.get? a = some o ∧ o.cls = .type "tuple" ∧ o.data = .seq its.toArray n ∧ IntsAre its ns
theorem IsT.keeps {h h' : Heap} {v : Value} {ns : List Int} (x : IsT h v ns) (k : ∀ b o, h.get? b = some o → o.cls = .type "tuple" → h'.get? b = some o) : IsT h' v ns := by
  obtain ⟨a, o, its, n, e, ho, hc, hd, hi⟩ := x
  exact ⟨a, o, its, n, e, k _ _ ho hc, hc, hd, hi⟩
theorem lex_any {b fin : Bool} {Q : Bool → Shared → Prop} : ∀ {xs ys : List Value} {ns ms : List Int} (i : Nat), IntsAre xs ns → IntsAre ys ms → fin = decide (ns.length < ms.length) → Q (lx ns ms) s → PySem.W.KatLex prog w A b fin Q (xs.zip ys) i s
  | _, _, _, _, i, .nil, .nil, hf, h => by
    have e : fin = lx [] [] := by rw [hf]; rfl
    subst e
    exact PySem.W.kat_nil h
  | _, _, _, _, i, .nil, .cons m u hy, hf, h => by
    have e : fin = true := by rw [hf]; simp
    subst e
    exact PySem.W.kat_nil h
  | _, _, _, _, i, .cons n t hx, .nil, hf, h => by
    have e : fin = false := by rw [hf]; simp
    subst e
    exact PySem.W.kat_nil h
  | _, _, _, _, i, .cons (ns := ns) n t hx, .cons (ns := ms) m u hy, hf, h => by
    refine PySem.W.kat_cons (SeqAt.EqAt.int_int n t m u prog w _ _ ?_)
    refine PySem.W.kat_go (fun e1 => ?_) (fun e1 => ?_)
    · have ex : n = m := by simpa using e1
      refine PySem.W.kat_yes (lex_any (i + 1) hx hy (by rw [hf]; simp) ?_)
      have e : lx (n :: ns) (m :: ms) = lx ns ms := by simp [HT.lexLt, ex]
      rw [e] at h
      exact h
    · have ex : ¬ n = m := by simpa using e1
      have e : lx (n :: ns) (m :: ms) = decide (n < m) := by simp [HT.lexLt, ex]
      rw [e] at h
      exact PySem.W.kat_no (TS.oneLt_ints _ h)
theorem IntsAre.len : ∀ {xs : List Value} {ns : List Int}, IntsAre xs ns → xs.length = ns.length
  | _, _, .nil => rfl
  | _, _, .cons n t h => by rw [List.length_cons, List.length_cons, IntsAre.len h]
theorem tup_cmp {vs : List Value} {k : Value → List Int} (hp : ∀ v ∈ vs, IsT s.heap v (k v)) : Cmp prog w A s (tuples' true) (fun p => p.1 ∈ vs) (lt2 fun v u => lx (k v) (k u)) := by
  intro p q hm hm'
  have h1 := hp _ hm
  have h2 := hp _ hm'
  show wpAny (model prog w) A (keyLt' (tuples' true) p.1 q.1) (fun r s' => s' = s ∧ r = lx (k p.1) (k q.1)) (fun _ _ => False) s
  obtain ⟨a, o, its, n, e, ho, hc, hd, hi⟩ := h1
  obtain ⟨a', o', its', n', e', ho', hc', hd', hi'⟩ := h2
  generalize k p.1 = ns at hi ⊢
  generalize k q.1 = ms at hi' ⊢
  rw [e, e']
  refine PySem.W.kat_lt ho hd ho' hd' (lex_any 0 (by simpa using hi) (by simpa using hi') ?_ ⟨rfl, rfl⟩)
  rw [List.size_toArray, List.size_toArray, IntsAre.len hi, IntsAre.len hi']
theorem firsts_of {h : Heap} {k : Value → List Int} : ∀ {vs : List Value}, (∀ v ∈ vs, IsT h v (k v) ∧ k v ≠ []) → ∃ fs : List Value, PySem.W.KatTups h vs fs ∧ fs.length = vs.length ∧ ∀ f ∈ fs, ∃ x t, f = Value.int x t
  | [], _ => ⟨[], PySem.W.KatTups.nil, rfl, fun _ hm => by simp at hm⟩
  | v :: vs, hp => by
    obtain ⟨fs, h1, h2, h3⟩ := firsts_of (vs := vs) fun v' hm => hp v' (List.mem_cons_of_mem _ hm)
    obtain ⟨⟨a, o, its, n, e, ho, hc, hd, hi⟩, hne⟩ := hp v (List.mem_cons_self ..)
    generalize hk : k v = ns at hi hne
    cases hi with
    | nil => exact absurd rfl hne
    | cons x t hi =>
      subst e
      refine ⟨.int x t :: fs, PySem.W.KatTups.cons ho hc hd (by simp) h1, by rw [List.length_cons, List.length_cons, h2], fun f hm => ?_⟩
      rcases List.mem_cons.mp hm with rfl | hm
      · exact ⟨x, t, rfl⟩
      · exact h3 f hm
theorem tups_sortable {a : Addr} {vs : List Value} {k : Value → List Int} (h0 : 0 < vs.length) (hp : ∀ v ∈ vs, IsT s.heap v (k v) ∧ k v ≠ []) (ha : ∀ o, s.heap.get? a = some o → o.cls ≠ .type "tuple") : SortableO prog w A s a vs fun v u => lx (k v) (k u) := by
  intro h' keep
  have hp' : ∀ v ∈ vs, IsT h' v (k v) ∧ k v ≠ [] := fun v hm => ⟨(hp v hm).1.keeps fun b o e c => keep b o (fun z => by subst z; exact ha o e c) e, (hp v hm).2⟩
  obtain ⟨fs, h1, h2, h3⟩ := firsts_of hp'
  refine ⟨tuples' true, fun Q E hq => ?_, tup_cmp fun v hm => (hp' v hm).1⟩
  refine PySem.W.kat_kind (T := .type "int") h1 (by omega) (fun f hm => ?_) (by rfl) ?_
  · obtain ⟨x, t, rfl⟩ := h3 f hm
    exact PySem.W.Looks.now
  · have e : (Value.type "int" != Value.type "tuple") = true := by first | decide +kernel | rfl | decide
    rw [e]
    exact hq
end
end EvS

namespace EvS
open PySem L2
/-- sorted(a list or a tuple), of ints or of tuples of ints -/
def rSortedG (K : PySem.W.Frag) : List V → Hp → VK → Prop := fun vs H Q => ∃ (a : Addr) (xs : List V), vs = [V.ref a] ∧ (SqL K H a xs ∨ SqT K H a xs) ∧
  ((∃ ns : List Int, xs = ns.map V.int ∧ ∀ (ns' : List Int) (p : Addr), ns'.Perm ns → ns'.Pairwise (· ≤ ·) → H p = none → Q (.ref p) (upd H p (.lst (ns'.map V.int)))) ∨
   (∃ k : V → List Int, (∀ x ∈ xs, ∃ t, x = V.ref t ∧ Rd H t (.tup ((k x).map V.int)) ∧ k x ≠ []) ∧ ∀ (zs : List V) (p : Addr), zs.Perm xs → zs.Pairwise (fun x y => lx (k y) (k x) = false) → H p = none → Q (.ref p) (upd H p (.lst zs))))
section
variable {X : Cx} {pins : List (Addr × Obj)} {σ : St} {H : Hp} {s : Shared}
theorem sorted_new {vs out : List Value} {ys : List V} {Q : VK} (I : Inv X pins σ H s) (hz : ys.length ≤ sizeLine) (r : Vals ys out) (q : ∀ p, H p = none → Q (.ref p) (upd H p (.lst ys))) :
    EP X pins σ Q (.ref (s.heap.objs.size + 1)) { s with heap := PyProof.Rows.sortedAll s.heap vs out.toArray } := by
  obtain ⟨ep, he'⟩ := PyProof.Rows.sortedAll_at s.heap vs out.toArray
  exact ⟨.ref _, upd H (s.heap.objs.size + 1) (.lst ys), I.laid (t' := s.toks) (fun _ _ => PyProof.Rows.sortedAll_old) (Nat.le_succ _) ⟨hz, out, ep, r, he'⟩, rfl, q _ (I.hok.fresh (Nat.le_succ _))⟩
theorem vals_perm : ∀ {out vs : List Value} {xs : List V}, out.Perm vs → Vals xs vs → ∃ ys : List V, ys.Perm xs ∧ Vals ys out := fun {out vs xs} p r => by
  have key : ∀ {us ws : List Value}, us.Perm ws → ∀ {zs : List V}, Vals zs ws → ∃ ys : List V, ys.Perm zs ∧ Vals ys us := fun {us ws} p => by
    induction p with
    | nil => intro zs r; cases r; exact ⟨[], .refl _, .nil⟩
    | cons x _ ih =>
      intro zs r
      cases r with
      | cons h t =>
        obtain ⟨ys, h1, h2⟩ := ih t
        exact ⟨_ :: ys, h1.cons _, .cons h h2⟩
    | swap x y l =>
      intro zs r
      cases r with
      | cons h t =>
        cases t with
        | cons h' t' => exact ⟨_ :: _ :: _, List.Perm.swap _ _ _, .cons h' (.cons h t')⟩
    | trans _ _ ih1 ih2 =>
      intro zs r
      obtain ⟨ys, h1, h2⟩ := ih2 r
      obtain ⟨ys', h3, h4⟩ := ih1 h2
      exact ⟨ys', h3.trans h1, h4⟩
  exact key p r
theorem cr_sortedG : CallR X (.builtin "sorted") (rSortedG X.K) := by
  intro pins s σ H vs us Q I r h
  obtain ⟨a, xs, rfl, hs, h⟩ := h
  rw [Vals.ref1 r]
  have run : ∀ {its : List Value} {ltv : Value → Value → Bool}, Vals xs its → xs.length ≤ sizeLine → (PlainL s.heap a its.toArray ∨ PyProof.Rows.IsTup s.heap a its.toArray) → SrtO.Swo ltv →
      (2 ≤ its.length → ∀ (h₁ : Heap) (a : Addr), h₁.get? a = some (PyProof.Rows.seqObj "list" its.toArray 0) → (∀ b o, s.heap.get? b = some o → b ≠ a ∧ h₁.get? b = some o) → SrtO.SortableO X.prog X.w X.A.in1.in1 { s with heap := h₁ } a its ltv) →
      (∀ out : List Value, SrtO.Srtd ltv out → SrtO.Stb ltv out its → EP X pins σ Q (.ref (s.heap.objs.size + 1)) { s with heap := PyProof.Rows.sortedAll s.heap its out.toArray }) →
      wpAny (model X.prog X.w) X.A (call (.builtin "sorted") [.ref a]) (EP X pins σ Q) X.xe s := fun {its ltv} rv hz ho O hS hQ => by
    rcases ho with ho | ho
    · exact SrtO.sorted_ord O ho.isList (by rw [← rv.length]; exact hz) hS hQ
    · exact sorted_ordT O ho (by rw [← rv.length]; exact hz) hS hQ
  obtain ⟨its, rv, hz, ho⟩ : ∃ its : List Value, Vals xs its ∧ xs.length ≤ sizeLine ∧ (PlainL s.heap a its.toArray ∨ PyProof.Rows.IsTup s.heap a its.toArray) := by
    rcases hs with hs | hs
    · obtain ⟨its, rv, hl, hz⟩ := I.list hs
      exact ⟨its, rv, hz, .inl hl⟩
    · obtain ⟨its, rv, hl, hz⟩ := I.tuple hs
      exact ⟨its, rv, hz, .inr hl⟩
  rcases h with ⟨ns, rfl, q⟩ | ⟨k, hk, q⟩
  · have hi := rv.ints
    refine run rv hz ho SrtO.swo_int (fun h2 h₁ a' _ _ => SrtO.ints_sortable hi h2) fun out h1 h2 => ?_
    obtain ⟨k1, k2, k3⟩ := SrtO.ints_out hi h1 h2
    refine sorted_new I ?_ (vals_of_ints k1) fun p hp => q _ p k2 k3 hp
    rw [List.length_map, k2.length_eq]
    rw [List.length_map] at hz
    exact hz
  · let kv : Value → List Int := fun u => match u with
      | .ref b => k (.ref b)
      | _ => []
    have hkv : ∀ v ∈ its, EvS.IsT s.heap v (kv v) ∧ kv v ≠ [] := fun v hv => by
      obtain ⟨i, hi, e⟩ := List.getElem_of_mem hv
      have hx : i < xs.length := by rw [rv.length]; exact hi
      obtain ⟨u, hu, ru⟩ := rv.get (i := i) (x := xs[i]) (by simp [hx])
      have eu : u = v := by
        rw [List.getElem?_eq_getElem hi, e] at hu
        exact (Option.some.inj hu).symm
      subst eu
      obtain ⟨t, et, ht, hne⟩ := hk xs[i] (List.getElem_mem hx)
      rw [et] at ru
      cases (show u = Value.ref t from ru)
      rw [et] at ht hne
      obtain ⟨_, its', rv', o, ho', hc', n, hd'⟩ := (show ObjOk X.prog X.w H s.heap t (.tup ((k (.ref t)).map V.int)) from ht.ok I.hok)
      exact ⟨⟨t, o, its', n, rfl, ho', hc', hd', rv'.ints⟩, hne⟩
    refine run rv hz ho (swo_lx kv) (fun h2 h₁ a' ha kk => ?_) fun out h1 h2 => ?_
    · refine tups_sortable (s := { s with heap := h₁ }) (by omega) (fun v hm => ⟨(hkv v hm).1.keeps fun b o e _ => (kk b o e).2, (hkv v hm).2⟩) fun o e => ?_
      have e' : some o = some (PyProof.Rows.seqObj "list" its.toArray 0) := e.symm.trans ha
      cases e'
      intro c
      exact absurd (Value.type.inj c) (by decide)
    · obtain ⟨ys, hp, ry⟩ := vals_perm h2.perm rv
      refine sorted_new I (by rw [hp.length_eq]; exact hz) ry fun p hn => q ys p hp ?_ hn
      have ref_of : ∀ y ∈ ys, ∃ t, y = V.ref t := fun y hy => by
        obtain ⟨t, e, _⟩ := hk y (hp.mem_iff.mp hy)
        exact ⟨t, e⟩
      clear h2 hp q hn
      induction ry with
      | nil => exact List.Pairwise.nil
      | cons rh rt ih =>
        rename_i y u ys' us'
        have h1' := List.pairwise_cons.mp h1
        refine List.pairwise_cons.mpr ⟨fun z hz' => ?_, ih h1'.2 fun y' hy' => ref_of y' (List.mem_cons_of_mem _ hy')⟩
        obtain ⟨t, rfl⟩ := ref_of y (List.mem_cons_self ..)
        obtain ⟨t2, rfl⟩ := ref_of z (List.mem_cons_of_mem _ hz')
        cases (show u = Value.ref t from rh)
        obtain ⟨j, hj, ej⟩ := List.getElem_of_mem hz'
        obtain ⟨u2, hu2, ru2⟩ := Vals.get (i := j) (x := V.ref t2) rt (by rw [List.getElem?_eq_getElem hj, ej])
        cases (show u2 = Value.ref t2 from ru2)
        exact h1'.1 _ (List.mem_of_getElem? hu2)
end
end EvS

set_option Elab.async false
set_option linter.all false
set_option maxRecDepth 100000
set_option maxHeartbeats 4000000
/-! Ev11: built-ins by values. -/
namespace Ev
open PySem L2

def ints? : List D → Option (List Int)
  | [] => some []
  | .int i :: ds => (ints? ds).map (i :: ·)
  | _ => none
theorem ints?_eq : ∀ {ds : List D} {ns : List Int}, ints? ds = some ns → ds = ns.map D.int
  | [], _, h => by cases h; rfl
  | .int i :: ds, _, h => by
    unfold ints? at h
    cases q : ints? ds with
    | none => rw [q] at h; cases h
    | some ns =>
      rw [q] at h
      cases h
      rw [ints?_eq q]; rfl
  | .non :: _, _, h => by cases h
  | .bl _ :: _, _, h => by cases h
  | .str _ :: _, _, h => by cases h
  | .tup _ :: _, _, h => by cases h
  | .lst _ :: _, _, h => by cases h
  | .raw _ :: _, _, h => by cases h
  | .scr _ _ :: _, _, h => by cases h
  | .town _ :: _, _, h => by cases h
  | .cut _ _ _ _ :: _, _, h => by cases h
  | .dct _ :: _, _, h => by cases h
@[simp] theorem ints?_map : ∀ ns : List Int, ints? (ns.map D.int) = some ns
  | [] => rfl
  | n :: ns => by simp [ints?, ints?_map ns]
@[simp] def dT (ns : List Int) : D := .tup (ns.map D.int)
def tups? : List D → Option (List (List Int))
  | [] => some []
  | .tup es :: ds => match ints? es with
    | some ns => (tups? ds).map (ns :: ·)
    | none => none
  | _ => none
theorem tups?_eq : ∀ {ds : List D} {ns : List (List Int)}, tups? ds = some ns → ds = ns.map dT
  | [], _, h => by cases h; rfl
  | .tup es :: ds, _, h => by
    unfold tups? at h
    cases q0 : ints? es with
    | none => rw [q0] at h; cases h
    | some ms =>
      rw [q0] at h
      simp only at h
      cases q : tups? ds with
      | none => rw [q] at h; cases h
      | some ns =>
        rw [q] at h
        cases h
        rw [tups?_eq q, ints?_eq q0]; rfl
  | .int _ :: _, _, h => by cases h
  | .non :: _, _, h => by cases h
  | .bl _ :: _, _, h => by cases h
  | .str _ :: _, _, h => by cases h
  | .lst _ :: _, _, h => by cases h
  | .raw _ :: _, _, h => by cases h
  | .scr _ _ :: _, _, h => by cases h
  | .town _ :: _, _, h => by cases h
  | .cut _ _ _ _ :: _, _, h => by cases h
  | .dct _ :: _, _, h => by cases h
@[simp] theorem tups?_map : ∀ ns : List (List Int), tups? (ns.map dT) = some ns
  | [] => rfl
  | n :: ns => by simp [tups?, dT, tups?_map ns]
def bls? : List D → Option (List Bool)
  | [] => some []
  | .bl i :: ds => (bls? ds).map (i :: ·)
  | _ => none
theorem bls?_eq : ∀ {ds : List D} {ns : List Bool}, bls? ds = some ns → ds = ns.map D.bl
  | [], _, h => by cases h; rfl
  | .bl i :: ds, _, h => by
    unfold bls? at h
    cases q : bls? ds with
    | none => rw [q] at h; cases h
    | some ns =>
      rw [q] at h
      cases h
      rw [bls?_eq q]; rfl
  | .non :: _, _, h => by cases h
  | .int _ :: _, _, h => by cases h
  | .str _ :: _, _, h => by cases h
  | .tup _ :: _, _, h => by cases h
  | .lst _ :: _, _, h => by cases h
  | .raw _ :: _, _, h => by cases h
  | .scr _ _ :: _, _, h => by cases h
  | .town _ :: _, _, h => by cases h
  | .cut _ _ _ _ :: _, _, h => by cases h
  | .dct _ :: _, _, h => by cases h
@[simp] theorem bls?_map : ∀ ns : List Bool, bls? (ns.map D.bl) = some ns
  | [] => rfl
  | n :: ns => by simp [bls?, bls?_map ns]

/-! ### the scheme -/
def HCall (r : List V → Hp → VK → Prop) (op : List D → Option D) (kk : Fk) : Prop := ∀ ds d, op ds = some d → ∀ (Γ : Cy) (al : Bool) (Hs : Hp) (F : Fp) (H : Hp) (vs : List V) (Q : VK), Nf Hs F H → Reps H (LB Γ al Hs F) ds vs →
  (∀ v' H', Same H H' → RepK Γ kk Hs F H' d v' → Q v' H') → r vs H Q
@[simp] def sCall (op : List D → Option D) (f : En → Out (List D)) : En → Out D := fun e => (f e).bind fun ds e1 => lift (op ds) e1
section
variable {X : Cx} {Γ : Cy} {W : WX} {pos p : Pos} {e : Expr} {es : List Expr} {al : Bool} {f : En → Out (List D)} {x : Str} {r : List V → Hp → VK → Prop} {op : List D → Option D} {kk : Fk} {id : String}
theorem call_core (hop : HCall r op kk) {σ : L2.St} {H : Hp} {Q : VK} (h : tE Γ W kk (sCall op f) σ H Q) : tCB r (tA Γ W al f) σ H Q := by
  obtain ⟨B, F, env, ok, h⟩ := h
  refine ⟨B, F, env, ok, oE.imp (oE.bind h) fun ds e1 H1 F1 _ _ ⟨ok1, g1, h1⟩ vs rv => ?_⟩
  cases q : op ds with
  | none => rw [q] at h1; exact h1.elim
  | some d =>
    rw [q] at h1
    exact hop ds d q Γ al H F1 H1 vs Q (.of ok1 fun p hp => g1.free hp) rv fun v' H' k rr => h1 H' F1 (ok1.kept k) (go_same k) v' rr
theorem ge_callB (hc : CallR X (.builtin id) r) (hop : HCall r op kk) (ha : GA X Γ W (e :: es) al f) (hm : X.mg x = none) (hv : bootBuiltins x = some (.builtin id)) (hg : Gl X x := by rfl) (hn : x ≠ "__name__" := by decide) (hdb : (x == ("__debug__" : Str)) = false := by decide)
    (he : starEach (e :: es) X.env = (false, eval e X.env) :: starEach es X.env := by rfl) (hpl : (backTo pos (starEach es X.env)).any (·.1) = false := by rfl) : GE X Γ W (.Call (.Name x p) (e :: es) [] pos) kk (sCall op f) :=
  ⟨PE.weak (pe_callB hc hg hm hv ha.pa hn hdb he hpl) fun _ _ _ h => call_core hop h⟩
theorem ge_callTy (hc : CallR X (.type id) r) (hop : HCall r op kk) (ha : GA X Γ W (e :: es) al f) (hm : X.mg x = none) (hv : bootBuiltins x = some (.type id)) (hg : Gl X x := by rfl) (hn : x ≠ "__name__" := by decide) (hdb : (x == ("__debug__" : Str)) = false := by decide)
    (he : starEach (e :: es) X.env = (false, eval e X.env) :: starEach es X.env := by rfl) (hpl : (backTo pos (starEach es X.env)).any (·.1) = false := by rfl) : GE X Γ W (.Call (.Name x p) (e :: es) [] pos) kk (sCall op f) :=
  ⟨PE.weak (pe_callTy hc hg hm hv ha.pa hn hdb he hpl) fun _ _ _ h => call_core hop h⟩
end

/-! ### len, all, sum, max, min -/
@[simp] def oLen : List D → Option D
  | [.lst ds] => some (.int ds.length)
  | [.tup ds] => some (.int ds.length)
  | [.str x] => if lim x.length = true then some (.int x.length) else none
  | _ => none
section
variable {X : Cx}
theorem Reps.one_inv {H : Hp} {L : Addr → Prop} {d : D} {vs : List V} (h : Reps H L [d] vs) : ∃ v, vs = [v] ∧ Rep H L d v := by
  obtain ⟨v, r, rfl, h1, h2⟩ := h
  cases (show r = [] from h2)
  exact ⟨v, rfl, h1⟩
theorem Reps.two_inv {H : Hp} {L : Addr → Prop} {d e : D} {vs : List V} (h : Reps H L [d, e] vs) : ∃ v u, vs = [v, u] ∧ Rep H L d v ∧ Rep H L e u := by
  obtain ⟨v, r, rfl, h1, h2⟩ := h
  obtain ⟨u, rfl, h3⟩ := h2.one_inv
  exact ⟨v, u, rfl, h1, h3⟩
theorem RepK.sc {Γ : Cy} {k : Fk} {Hs H : Hp} {F : Fp} {d : D} (h : isS d = true) : RepK Γ k Hs F H d (vOf d) := RepK.of_lf (L := Lx Γ F) (by cases d <;> first | rfl | cases h) (rep_s h)
theorem h_len : HCall (fun xs H Q => ∃ x n, xs = [x] ∧ LenV X.K x H n ∧ Q (.int n) H) oLen .all := fun ds d q Γ al Hs F H vs Q nf rv k => by
  unfold oLen at q
  split at q
  · cases q
    obtain ⟨v, rfl, a, xs, rfl, hA, _, rA⟩ := rv.one_inv
    exact ⟨_, xs.length, rfl, .inl ⟨xs, SqL.of hA, rfl⟩, by rw [rA.length]; exact k _ _ (Same.refl H) (RepK.sc rfl)⟩
  · cases q
    obtain ⟨v, rfl, a, xs, rfl, hA, rA⟩ := rv.one_inv
    exact ⟨_, xs.length, rfl, .inr ⟨xs, SqT.rd hA, rfl⟩, by rw [rA.length]; exact k _ _ (Same.refl H) (RepK.sc rfl)⟩
  · split at q
    · rename_i hl
      cases q
      obtain ⟨v, rfl, h⟩ := rv.one_inv
      cases (show v = _ from h)
      exact ⟨_, _, rfl, ⟨lim_le hl, rfl⟩, k _ _ (Same.refl H) (RepK.sc rfl)⟩
    · cases q
  · cases q
@[simp] def oAll : List D → Option D
  | [.lst ds] => (bls? ds).map fun bs => .bl (bs.all id)
  | _ => none
theorem h_all : HCall (rAll X.K) oAll .all := fun ds d q Γ al Hs F H vs Q nf rv k => by
  unfold oAll at q
  split at q
  · rename_i es
    cases q1 : bls? es with
    | none => rw [q1] at q; cases q
    | some bs =>
      rw [q1] at q
      cases q
      cases bls?_eq q1
      obtain ⟨v, rfl, a, xs, rfl, hA, _, rA⟩ := rv.one_inv
      rw [Reps.bools rA] at hA
      exact ⟨a, bs, rfl, SqL.of hA, k _ _ (Same.refl H) (RepK.sc rfl)⟩
  · cases q
def rSumA (K : PySem.W.Frag) : List V → Hp → VK → Prop := fun vs H Q => ∃ (a : Addr) (ns : List Int), vs = [V.ref a] ∧ (SqL K H a (ns.map V.int) ∨ SqT K H a (ns.map V.int)) ∧ Q (.int ns.sum) H
theorem cr_sumA (hc : X.calm = true) : CallR X (.builtin "sum") (rSumA X.K) := by
  intro pins s σ H vs us Q I r h
  obtain ⟨a, ns, e, hs | hs, q⟩ := h
  · exact cr_sum hc pins s σ H vs us Q I r ⟨a, ns, e, hs, q⟩
  · subst e
    obtain ⟨its, rv, ht, _⟩ := I.tuple hs
    rw [Vals.ref1 r]
    have hi := rv.ints
    obtain ⟨xs, ex⟩ := hi.allInts.items
    have hn : PySem.numsOf (PySem.intItems xs).toList = ns := by rw [← ex]; exact hi.numsOf
    rw [PySem.nums_intItems] at hn
    rw [ex] at ht
    refine PySem.W.ktm_sumG (I.ok.hd hc) ht fun h' tk t' hk => ?_
    refine ⟨.int ns.sum, H, I.kept hk, ⟨t', ?_⟩, q⟩
    rw [PySem.preSum_eq, List.take_of_length_le (by simp), hn]
@[simp] def oSum : List D → Option D
  | [.lst ds] => (ints? ds).map fun ns => .int ns.sum
  | [.tup ds] => (ints? ds).map fun ns => .int ns.sum
  | _ => none
theorem h_sum : HCall (rSumA X.K) oSum .all := fun ds d q Γ al Hs F H vs Q nf rv k => by
  unfold oSum at q
  split at q
  · rename_i es
    cases q1 : ints? es with
    | none => rw [q1] at q; cases q
    | some bs =>
      rw [q1] at q
      cases q
      cases ints?_eq q1
      obtain ⟨v, rfl, a, xs, rfl, hA, _, rA⟩ := rv.one_inv
      rw [Reps.ints rA] at hA
      exact ⟨a, bs, rfl, .inl (SqL.of hA), k _ _ (Same.refl H) (RepK.sc rfl)⟩
  · rename_i es
    cases q1 : ints? es with
    | none => rw [q1] at q; cases q
    | some bs =>
      rw [q1] at q
      cases q
      cases ints?_eq q1
      obtain ⟨v, rfl, a, xs, rfl, hA, rA⟩ := rv.one_inv
      rw [Reps.ints rA] at hA
      exact ⟨a, bs, rfl, .inr (SqT.rd hA), k _ _ (Same.refl H) (RepK.sc rfl)⟩
  · cases q
@[simp] def oMax2 : List D → Option D
  | [.int i, .int j] => some (.int (if j > i then j else i))
  | _ => none
theorem h_max2 : HCall (fun xs H Q => ∃ i j, xs = [.int i, .int j] ∧ Q (.int (if j > i then j else i)) H) oMax2 .all := fun ds d q Γ al Hs F H vs Q nf rv k => by
  unfold oMax2 at q
  split at q
  · cases q
    obtain ⟨v, u, rfl, h1, h2⟩ := rv.two_inv
    cases (show v = _ from h1)
    cases (show u = _ from h2)
    exact ⟨_, _, rfl, k _ _ (Same.refl H) (RepK.sc rfl)⟩
  · cases q
@[simp] def oMin2 : List D → Option D
  | [.int i, .int j] => some (.int (if j < i then j else i))
  | _ => none
theorem h_min2 : HCall (fun xs H Q => ∃ i j, xs = [.int i, .int j] ∧ Q (.int (if j < i then j else i)) H) oMin2 .all := fun ds d q Γ al Hs F H vs Q nf rv k => by
  unfold oMin2 at q
  split at q
  · cases q
    obtain ⟨v, u, rfl, h1, h2⟩ := rv.two_inv
    cases (show v = _ from h1)
    cases (show u = _ from h2)
    exact ⟨_, _, rfl, k _ _ (Same.refl H) (RepK.sc rfl)⟩
  · cases q
def minL : List Int → Int
  | [] => 0
  | [n] => n
  | n :: ns => if n ≤ minL ns then n else minL ns
theorem minL_ok : ∀ {ns : List Int} {m : Int}, ns ≠ [] → m ∈ ns → (∀ y ∈ ns, m ≤ y) → m = minL ns
  | [], _, h, _, _ => absurd rfl h
  | [n], m, _, h, _ => by simpa [minL] using h
  | n :: n' :: ns, m, _, hm, hle => by
    have hmin : ∀ {l : List Int}, l ≠ [] → minL l ∈ l ∧ ∀ y ∈ l, minL l ≤ y := fun {l} hl => by
      induction l with
      | nil => exact absurd rfl hl
      | cons a l ih =>
        cases l with
        | nil => simp [minL]
        | cons b l =>
          obtain ⟨i1, i2⟩ := ih (by simp)
          simp only [minL]
          split
          · rename_i h
            exact ⟨by simp, fun y hy => by
              rcases List.mem_cons.mp hy with rfl | hy
              · exact Int.le_refl _
              · exact Int.le_trans h (i2 y hy)⟩
          · rename_i h
            exact ⟨List.mem_cons_of_mem _ i1, fun y hy => by
              rcases List.mem_cons.mp hy with rfl | hy
              · exact Int.le_of_lt (Int.not_le.mp h)
              · exact i2 y hy⟩
    obtain ⟨h1, h2⟩ := hmin (l := n :: n' :: ns) (by simp)
    exact Int.le_antisymm (hle _ h1) (h2 _ hm)
@[simp] def oMin : List D → Option D
  | [.lst ds] => match ints? ds with
    | some (n :: ns) => some (.int (minL (n :: ns)))
    | _ => none
  | _ => none
theorem h_min : HCall (rMin X.K) oMin .all := fun ds d q Γ al Hs F H vs Q nf rv k => by
  unfold oMin at q
  split at q
  · rename_i es
    split at q
    · rename_i n ns q1
      cases q
      cases ints?_eq q1
      obtain ⟨v, rfl, a, xs, rfl, hA, _, rA⟩ := rv.one_inv
      rw [Reps.ints rA] at hA
      exact ⟨a, n :: ns, rfl, SqL.of hA, by simp, fun m h1 h2 => by rw [minL_ok (by simp) h1 h2]; exact k _ _ (Same.refl H) (RepK.sc rfl)⟩
    · cases q
  · cases q

/-! ### tuple(..), list(..) -/
@[simp] def oTupleOf : List D → Option D
  | [d] => (items? d).map .tup
  | _ => none
theorem Rep.seq {H : Hp} {L : Addr → Prop} {d : D} {ds : List D} {v : V} (r : Rep H L d v) (hi : items? d = some ds) : ∃ a xs, v = .ref a ∧ Reps H L ds xs ∧ ((H a = some (.lst xs) ∧ d = .lst ds) ∨ (Rd H a (.tup xs) ∧ d = .tup ds)) := by
  cases d with
  | lst es =>
    cases hi
    obtain ⟨a, xs, rfl, hA, _, rA⟩ := r
    exact ⟨a, xs, rfl, rA, .inl ⟨hA, rfl⟩⟩
  | tup es =>
    cases hi
    obtain ⟨a, xs, rfl, hA, rA⟩ := r
    exact ⟨a, xs, rfl, rA, .inr ⟨hA, rfl⟩⟩
  | _ => cases hi
theorem h_tupleOf : HCall (fun xs H Q => ∃ p ys, xs = [.ref p] ∧ ((SqL X.K H p ys ∧ ∀ l, H l = none → Q (.ref l) (upd H l (.tup ys))) ∨ (SqT X.K H p ys ∧ Q (.ref p) H))) oTupleOf .bor := fun ds d q Γ al Hs F H vs Q nf rv k => by
  unfold oTupleOf at q
  split at q
  · rename_i d0
    cases q1 : items? d0 with
    | none => rw [q1] at q; cases q
    | some es =>
      rw [q1] at q
      cases q
      obtain ⟨v, rfl, h⟩ := rv.lbX.one_inv
      obtain ⟨a, xs, rfl, rA, hA⟩ := h.seq q1
      refine ⟨a, xs, rfl, ?_⟩
      rcases hA with ⟨hA, _⟩ | ⟨hA, _⟩
      · exact .inl ⟨SqL.of hA, fun l hl => k _ _ (same_upd hl) ⟨l, xs, rfl, .inl upd_same, rA.same (same_upd hl)⟩⟩
      · exact .inr ⟨SqT.rd hA, k _ _ (Same.refl H) ⟨a, xs, rfl, hA, rA⟩⟩
  · cases q
@[simp] def oListOf : List D → Option D
  | [d] => (items? d).map .lst
  | _ => none
theorem h_listOf : HCall (fun xs H Q => ∃ p ys, xs = [.ref p] ∧ (SqL X.K H p ys ∨ SqT X.K H p ys) ∧ ∀ l, H l = none → Q (.ref l) (upd H l (.lst ys))) oListOf .out := fun ds d q Γ al Hs F H vs Q nf rv k => by
  unfold oListOf at q
  split at q
  · rename_i d0
    cases q1 : items? d0 with
    | none => rw [q1] at q; cases q
    | some es =>
      rw [q1] at q
      cases q
      obtain ⟨v, rfl, h⟩ := rv.lbX.one_inv
      obtain ⟨a, xs, rfl, rA, hA⟩ := h.seq q1
      refine ⟨a, xs, rfl, ?_, fun l hl => k _ _ (same_upd hl) ⟨l, xs, rfl, upd_same, nf l hl, rA.same (same_upd hl)⟩⟩
      rcases hA with ⟨hA, _⟩ | ⟨hA, _⟩
      · exact .inl (SqL.of hA)
      · exact .inr (SqT.rd hA)
  · cases q

/-! ### sorted -/
def ins {α : Type} (le : α → α → Bool) (x : α) : List α → List α
  | [] => [x]
  | y :: ys => if le x y = true then x :: y :: ys else y :: ins le x ys
def isort {α : Type} (le : α → α → Bool) : List α → List α
  | [] => []
  | x :: xs => ins le x (isort le xs)
theorem ins_perm {α : Type} {le : α → α → Bool} (x : α) : ∀ ys : List α, (ins le x ys).Perm (x :: ys)
  | [] => .refl _
  | y :: ys => by
    unfold ins
    split
    · exact .refl _
    · exact ((ins_perm x ys).cons y).trans (List.Perm.swap _ _ _)
theorem isort_perm {α : Type} {le : α → α → Bool} : ∀ xs : List α, (isort le xs).Perm xs
  | [] => .refl _
  | x :: xs => (ins_perm x _).trans ((isort_perm xs).cons x)
theorem ins_sorted {α : Type} {le : α → α → Bool} (tot : ∀ a b, le a b = false → le b a = true) (tr : ∀ a b c, le a b = true → le b c = true → le a c = true) (x : α) : ∀ {ys : List α}, ys.Pairwise (fun a b => le a b = true) → (ins le x ys).Pairwise (fun a b => le a b = true)
  | [], _ => List.pairwise_singleton _ _
  | y :: ys, h => by
    obtain ⟨h1, h2⟩ := List.pairwise_cons.mp h
    unfold ins
    split
    · rename_i e
      refine List.pairwise_cons.mpr ⟨fun z hz => ?_, h⟩
      rcases List.mem_cons.mp hz with rfl | hz
      · exact e
      · exact tr _ _ _ e (h1 z hz)
    · rename_i e
      have e' : le x y = false := by simpa using e
      refine List.pairwise_cons.mpr ⟨fun z hz => ?_, ins_sorted tot tr x h2⟩
      rcases List.mem_cons.mp ((ins_perm x ys).mem_iff.mp hz) with rfl | hz
      · exact tot _ _ e'
      · exact h1 z hz
theorem isort_sorted {α : Type} {le : α → α → Bool} (tot : ∀ a b, le a b = false → le b a = true) (tr : ∀ a b c, le a b = true → le b c = true → le a c = true) : ∀ xs : List α, (isort le xs).Pairwise (fun a b => le a b = true)
  | [] => List.Pairwise.nil
  | x :: xs => ins_sorted tot tr x (isort_sorted tot tr xs)
theorem perm_sorted {α : Type} {R : α → α → Prop} (anti : ∀ a b, R a b → R b a → a = b) : ∀ {l m : List α}, l.Pairwise R → m.Pairwise R → l.Perm m → l = m
  | [], m, _, _, p => (List.nil_perm.mp p).symm ▸ rfl
  | x :: l, [], _, _, p => absurd p.length_eq (by simp)
  | x :: l, y :: m, h1, h2, p => by
    obtain ⟨a1, a2⟩ := List.pairwise_cons.mp h1
    obtain ⟨b1, b2⟩ := List.pairwise_cons.mp h2
    have e : x = y := by
      have hx : x ∈ y :: m := p.mem_iff.mp (by simp)
      have hy : y ∈ x :: l := p.mem_iff.mpr (by simp)
      rcases List.mem_cons.mp hx with e | hx
      · exact e
      rcases List.mem_cons.mp hy with e | hy
      · exact e.symm
      exact anti _ _ (a1 y hy) (b1 x hx)
    subst e
    rw [perm_sorted anti a2 b2 (List.Perm.cons_inv p)]
def leI (a b : Int) : Bool := decide (a ≤ b)
def leT (a b : List Int) : Bool := !EvS.lx b a
abbrev sortI : List Int → List Int := isort leI
abbrev sortT : List (List Int) → List (List Int) := isort leT
theorem leT_iff {a b : List Int} : leT a b = true ↔ EvS.lx b a = false := by unfold leT; cases EvS.lx b a <;> simp
theorem sortI_sorted (ns : List Int) : (sortI ns).Pairwise (· ≤ ·) := (isort_sorted (le := leI) (fun a b h => by have := of_decide_eq_false h; exact decide_eq_true (by omega)) (fun a b c h1 h2 => by
  have q1 := of_decide_eq_true h1
  have q2 := of_decide_eq_true h2
  exact decide_eq_true (by omega)) ns).imp fun h => of_decide_eq_true h
theorem sortI_uniq {ns ns' : List Int} (p : ns'.Perm ns) (h : ns'.Pairwise (· ≤ ·)) : ns' = sortI ns := perm_sorted (fun a b h1 h2 => Int.le_antisymm h1 h2) h (sortI_sorted ns) (p.trans (isort_perm ns).symm)
theorem sortT_sorted (ns : List (List Int)) : (sortT ns).Pairwise (fun x y => EvS.lx y x = false) := (isort_sorted (le := leT) (fun a b h => by
  have : EvS.lx b a = true := by unfold leT at h; simpa using h
  exact leT_iff.mpr (EvS.lx_asym _ _ this)) (fun a b c h1 h2 => leT_iff.mpr (EvS.lx_tr _ _ _ (leT_iff.mp h1) (leT_iff.mp h2))) ns).imp fun h => leT_iff.mp h
theorem sortT_uniq {ns ns' : List (List Int)} (p : ns'.Perm ns) (h : ns'.Pairwise (fun x y => EvS.lx y x = false)) : ns' = sortT ns := perm_sorted (fun a b h1 h2 => (EvS.lx_anti b a h1 h2).symm) h (sortT_sorted ns) (p.trans (isort_perm ns).symm)
def oSorted : List D → Option D
  | [d] => match items? d with
    | some ds => match ints? ds with
      | some ns => some (.lst ((sortI ns).map .int))
      | none => match tups? ds with
        | some nss => if nss.all (fun n => !n.isEmpty) = true then some (.lst ((sortT nss).map dT)) else none
        | none => none
    | none => none
  | _ => none
def vInts : List V → List Int
  | [] => []
  | .int i :: vs => i :: vInts vs
  | _ :: vs => vInts vs
theorem vInts_map : ∀ ns : List Int, vInts (ns.map V.int) = ns
  | [] => rfl
  | n :: ns => by simp [vInts, vInts_map ns]
/-- the ints of the tuple that v is -/
def tupAt (H : Hp) (v : V) : List Int := match v with
  | .ref t => match H t with
    | some (.tup ys) => vInts ys
    | some (.frz _ (.tup ys)) => vInts ys
    | _ => []
  | _ => []
theorem reps_dT {H : Hp} {L : Addr → Prop} : ∀ {ns : List (List Int)} {xs : List V}, Reps H L (ns.map dT) xs → (∀ x ∈ xs, ∃ t, x = V.ref t ∧ Rd H t (.tup ((tupAt H x).map V.int))) ∧ xs.map (tupAt H) = ns
  | [], _, h => by cases (show _ = [] from h); exact ⟨fun x hx => (by cases hx), rfl⟩
  | n :: ns, _, h => by
    obtain ⟨x, r, rfl, ⟨t, ys, rfl, hT, rT⟩, h2⟩ := h
    obtain ⟨i1, i2⟩ := reps_dT h2
    have e : ys = n.map V.int := Reps.ints rT
    subst e
    have et : tupAt H (.ref t) = n := by
      rcases hT with hT | ⟨o, hT⟩ <;> simp [tupAt, hT, vInts_map]
    refine ⟨fun y hy => ?_, by rw [List.map_cons, et, i2]⟩
    rcases List.mem_cons.mp hy with rfl | hy
    · exact ⟨t, rfl, by rw [et]; exact hT⟩
    · exact i1 y hy
theorem reps_of_dT {H : Hp} {L : Addr → Prop} : ∀ {zs : List V}, (∀ x ∈ zs, ∃ t, x = V.ref t ∧ Rd H t (.tup ((tupAt H x).map V.int))) → Reps H L ((zs.map (tupAt H)).map dT) zs
  | [], _ => rfl
  | z :: zs, h => by
    obtain ⟨t, rfl, hT⟩ := h z (by simp)
    exact Reps.cons ⟨t, _, rfl, hT, Reps.of_ints _⟩ (reps_of_dT fun x hx => h x (List.mem_cons_of_mem _ hx))
theorem h_sorted : HCall (EvS.rSortedG X.K) oSorted .all := fun ds d q Γ al Hs F H vs Q nf rv k => by
  unfold oSorted at q
  split at q
  · rename_i d0
    cases q1 : items? d0 with
    | none => rw [q1] at q; cases q
    | some es =>
      rw [q1] at q
      simp only at q
      obtain ⟨v, rfl, h⟩ := rv.lbX.one_inv
      obtain ⟨a, xs, rfl, rA, hA⟩ := h.seq q1
      refine ⟨a, xs, rfl, hA.elim (fun z => .inl (SqL.of z.1)) fun z => .inr (SqT.rd z.1), ?_⟩
      cases q2 : ints? es with
      | some ns =>
        rw [q2] at q
        cases q
        cases ints?_eq q2
        refine .inl ⟨ns, Reps.ints rA, fun ns' p hp hs hn => ?_⟩
        rw [sortI_uniq hp hs]
        exact k _ _ (same_upd hn) ⟨p, _, rfl, upd_same, nf p hn, Reps.of_ints _⟩
      | none =>
        rw [q2] at q
        simp only at q
        cases q3 : tups? es with
        | none => rw [q3] at q; cases q
        | some nss =>
          rw [q3] at q
          simp only at q
          split at q
          · rename_i hall
            cases q
            cases tups?_eq q3
            obtain ⟨i1, i2⟩ := reps_dT rA
            refine .inr ⟨tupAt H, fun x hx => ?_, fun zs p hp hs hn => ?_⟩
            · obtain ⟨t, e1, e2⟩ := i1 x hx
              refine ⟨t, e1, e2, fun z => ?_⟩
              have hm : tupAt H x ∈ nss := by rw [← i2]; exact List.mem_map_of_mem hx
              have := List.all_eq_true.mp hall _ hm
              rw [z] at this
              cases this
            · have hz : zs.map (tupAt H) = sortT nss := sortT_uniq (by rw [← i2]; exact hp.map _) (List.pairwise_map.mpr hs)
              refine k _ _ (same_upd hn) ⟨p, zs, rfl, upd_same, nf p hn, ?_⟩
              rw [← hz]
              exact (reps_of_dT fun x hx => i1 x (hp.mem_iff.mp hx)).same (same_upd hn)
          · cases q
  · cases q

/-! ### isinstance(x, T), T built-in -/
inductive Ty where
  | int | bool | str | tuple
def Ty.name : Ty → String
  | .int => "int"
  | .bool => "bool"
  | .str => "str"
  | .tuple => "tuple"
@[simp] def oIsi (t : Ty) : D → Option D
  | .non => some (.bl false)
  | .bl _ => match t with
    | .int => some (.bl true)
    | .bool => some (.bl true)
    | _ => some (.bl false)
  | .int _ => match t with
    | .int => some (.bl true)
    | _ => some (.bl false)
  | .str _ => match t with
    | .str => some (.bl true)
    | _ => some (.bl false)
  | .tup _ => match t with
    | .tuple => some (.bl true)
    | _ => some (.bl false)
  | .lst _ => some (.bl false)
  | _ => none
def tyD : D → String
  | .bl _ => "bool"
  | .int _ => "int"
  | .str _ => "str"
  | .tup _ => "tuple"
  | .lst _ => "list"
  | _ => "NoneType"
theorem oIsi_ok {t : Ty} {x d : D} (h : oIsi t x = some d) : ∃ b, d = .bl b ∧ kitB (tyD x) t.name = some b := by
  cases x <;> cases t <;> simp only [oIsi, Option.some.injEq] at h <;> first | (subst h; exact ⟨_, rfl, by simp only [tyD, Ty.name]; decide +kernel⟩) | (cases h; done)
theorem tyD_ok {K : PySem.W.Frag} {H : Hp} {L : Addr → Prop} {t : Ty} {x d : D} {v : V} (h : oIsi t x = some d) (r : Rep H L x v) : TyX K H v (.type (tyD x)) := by
  cases x with
  | non => cases (show v = _ from r); exact .base .non
  | bl b => cases (show v = _ from r); exact .base (.bl b)
  | int b => cases (show v = _ from r); exact .base (.int b)
  | str b => cases (show v = _ from r); exact .base (.str b)
  | tup ds => obtain ⟨a, xs, rfl, hA, _⟩ := r; exact hA.elim (fun hA => .base (.tup hA)) fun ⟨o, hA⟩ => .fTuple hA
  | lst ds => obtain ⟨a, xs, rfl, hA, _, _⟩ := r; exact .base (.lst hA)
  | raw v => cases h
  | ftp ds => cases h
  | scr K ns => cases h
  | town k => cases h
  | cut _ _ _ _ => cases h
  | dct _ => cases h
variable {Γ : Cy} {W : WX} {pos p pn : Pos} {e : Expr} {k : Fk} {f : En → Out D}
theorem ge_isi (t : Ty) {tn : Str} (he : GE X Γ W e k f) (hm : X.mg "isinstance" = none) (hm2 : X.mg tn = none) (hv : bootBuiltins tn = some (.type t.name) := by decide +kernel) (hg : Gl X "isinstance" := by rfl) (hg2 : Gl X tn := by rfl) (hn : tn ≠ "__name__" := by decide) (hdb : (tn == ("__debug__" : Str)) = false := by decide)
    (hs : starEach [e, .Name tn pn] X.env = (false, eval e X.env) :: starEach [.Name tn pn] X.env := by rfl) (hs2 : starEach [.Name tn pn] X.env = (false, eval (.Name tn pn) X.env) :: starEach [] X.env := by rfl) (hpl : (backTo pos (starEach [.Name tn pn] X.env)).any (·.1) = false := by rfl) :
    GE X Γ W (.Call (.Name "isinstance" p) [e, .Name tn pn] [] pos) .all (s1 (oIsi t) f) := by
  refine ⟨PE.weak (pe_callB call_isi hg hm (by decide +kernel) (pa_cons he.pe (pa_cons (pe_bltn (v := .ty t.name) hg2 hm2 hv rfl hn hdb) pa_nil hs2) hs) (he := hs) (hpl := hpl)) ?_⟩
  rintro σ H Q ⟨B, F, env, ok, h⟩
  refine ⟨B, F, env, ok, oE.imp (oE.bind h) fun x e1 H1 F1 _ _ ⟨ok1, g1, h1⟩ u ru => ?_⟩
  cases q : oIsi t x with
  | none => rw [q] at h1; exact h1.elim
  | some d =>
    rw [q] at h1
    obtain ⟨b, rfl, hk⟩ := oIsi_ok q
    exact ⟨u, .ty t.name, .type (tyD x), .type t.name, b, rfl, .ty _, tyD_ok q ru.x, kit_ty hk, h1.here ok1 _ rfl⟩

/-! ### in, not in -/
def isF : D → Bool
  | .non => true
  | .bl _ => true
  | .int _ => true
  | .str _ => true
  | _ => false
theorem isF_flat {H : Hp} {L : Addr → Prop} {d : D} {v : V} (h : isF d = true) (r : Rep H L d v) : flatV v = true ∧ v = vOf d := by
  cases d <;> first | (cases h; done) | (cases (show v = _ from r); exact ⟨rfl, rfl⟩)
theorem isF_flats {H : Hp} {L : Addr → Prop} : ∀ {ds : List D} {vs : List V}, ds.all isF = true → Reps H L ds vs → vs.all flatV = true ∧ vs = ds.map vOf
  | [], _, _, h => by cases (show _ = [] from h); exact ⟨rfl, rfl⟩
  | d :: ds, vs, f, h => by
    obtain ⟨x, r, rfl, h1, h2⟩ := h
    rw [List.all_cons, Bool.and_eq_true] at f
    obtain ⟨a1, a2⟩ := isF_flat f.1 h1
    obtain ⟨b1, b2⟩ := isF_flats f.2 h2
    exact ⟨by rw [List.all_cons, a1, b1]; rfl, by rw [List.map_cons, ← a2, ← b2]⟩
/-- flat things: in a list or a tuple; data: in a list -/
def inD (x : D) (y : D) : Option Bool := match items? y with
  | some ds => if (isF x && ds.all isF) = true then some (inV (vOf x) (ds.map vOf))
    else match y with
      | .lst ds => if (shp 8 x && shp 9 (.lst ds)) = true then some (ds.any fun z => deq z x) else none
      | _ => none
  | none => none
@[simp] def oIn (x y : D) : Option D := (inD x y).map .bl
@[simp] def oNotIn (x y : D) : Option D := (inD x y).map fun b => .bl (!b)
def rInA (K : PySem.W.Frag) (neg : Bool) : R2 := fun x y H Q => rIn K neg x y H Q ∨ ∃ d ds, Dp K H x d ∧ Dp K H y (.list ds) ∧ SeqAt.shaped d = true ∧ SeqAt.shaped (.list ds) = true ∧ Q (.bl (if neg then !(ds.any fun z => PyData.eqv z d) else ds.any fun z => PyData.eqv z d)) H
theorem op_inA (hu : X.A.units + 65 < cLine) : OpR X (compareOp .In) (rInA X.K false) := op_in_seq.or (op_inD hu)
theorem any_pys {x : D} : ∀ ds : List D, ((pys ds).any fun z => PyData.eqv z (py x)) = ds.any fun z => deq z x
  | [] => by simp [pys]
  | d :: ds => by
    simp only [pys, List.any_cons, any_pys ds]
    rfl
theorem hin {K : PySem.W.Frag} {neg : Bool} {x y : D} {b : Bool} (q : inD x y = some b) {H : Hp} {L : Addr → Prop} {u v : V} {Q : VK} (ru : Rep H L x u) (rv : Rep H L y v) (k : Q (.bl (if neg then !b else b)) H) : rInA K neg u v H Q := by
  unfold inD at q
  cases q1 : items? y with
  | none => rw [q1] at q; cases q
  | some ds =>
    rw [q1] at q
    simp only at q
    obtain ⟨a, xs, rfl, rA, hA⟩ := rv.seq q1
    split at q
    · rename_i hf
      cases q
      rw [Bool.and_eq_true] at hf
      obtain ⟨a1, a2⟩ := isF_flat hf.1 ru
      obtain ⟨b1, b2⟩ := isF_flats hf.2 rA
      refine .inl ⟨a, xs, rfl, hA.elim (fun z => .inl (SqL.of z.1)) fun z => .inr (SqT.rd z.1), a1, b1, ?_⟩
      rw [a2, b2]
      exact k
    · split at q
      · rename_i ds'
        split at q
        · rename_i hs
          cases q
          rw [Bool.and_eq_true] at hs
          obtain ⟨hd2, hd3⟩ := shp_ok hs.1
          refine .inr ⟨py x, pys ds', ru.dp hs.1, ?_, ?_, ?_, ?_⟩
          · have := rv.dp (K := K) hs.2
            simpa [py] using this
          · unfold SeqAt.shaped
            rw [hd2, Bool.true_and]
            exact decide_eq_true (by omega)
          · have := shaped_of hs.2
            simpa [py] using this
          · rw [any_pys]
            exact k
        · cases q
      · cases q
theorem hop_in {K : PySem.W.Frag} : HOp (rInA K false) oIn := fun x y d q => by
  unfold oIn at q
  cases q1 : inD x y with
  | none => rw [q1] at q; cases q
  | some b =>
    rw [q1] at q
    cases q
    exact ⟨rfl, fun H L u v Q ru rv k => hin q1 ru rv k⟩
theorem hop_notIn {K : PySem.W.Frag} : HOp (rInA K true) oNotIn := fun x y d q => by
  unfold oNotIn at q
  cases q1 : inD x y with
  | none => rw [q1] at q; cases q
  | some b =>
    rw [q1] at q
    cases q
    exact ⟨rfl, fun H L u v Q ru rv k => hin q1 ru rv k⟩
theorem c_in (hu : X.A.units + 65 < cLine) : CmpOk X .In oIn := ⟨_, op_inA hu, hop_in⟩
theorem c_notIn (hu : X.A.units + 65 < cLine) : CmpOk X .NotIn oNotIn := ⟨_, op_notIn_seq.or (op_notInD hu), hop_notIn⟩
end
end Ev

set_option Elab.async false
set_option linter.all false
set_option maxRecDepth 100000
set_option maxHeartbeats 4000000
/-! Ev12: further words: ranges as tuples and lists, the town, three names at once. -/
namespace Ev
open PySem L2
theorem _root_.L2.Room.units5 {k : Nat} {A : Around} (r : Room k A) : A.units + 65 < cLine := by have := r.un; omega
structure ExcF (K : PySem.W.Frag) (mg : Str → Option Value) (x : Str) (C : Addr) : Prop where
  xP : PySem.W.excIn K C [.type "ValueError", .type "Exception", .type "BaseException", .type "object"] "ValueError.__new__" = true
  gP : mg x = some (.ref C)
  kP : PySem.W.keepIn K (.ref C) = true
  bP : PySem.W.subIn K (.ref C) (.type "BaseException") = some true
  tP : PySem.W.typeIn K (.ref C) = some (.type "type")

section
variable {X : Cx} {Γ : Cy} {W : WX} {pos p p2 pos2 : Pos} {e a b c : Expr} {es : List Expr} {k fa fb fc : Fk} {al : Bool} {f g h : En → Out D} {gl : En → Out (List D)} {x y z : Str}
/-! tuple(range(..)), list(range(..)) -/
def rgOk (a b : Int) : Bool := rgB a && (rgB b && decide ((b - a).toNat ≤ 1000000))
theorem rgOk_ok {a b : Int} (h : rgOk a b = true) : RgOk a b := by
  unfold rgOk at h
  rw [Bool.and_eq_true, Bool.and_eq_true] at h
  obtain ⟨h1, h2, h3⟩ := h
  obtain ⟨q1, q2⟩ := rgB_ok h1
  obtain ⟨q3, q4⟩ := rgB_ok h2
  exact ⟨q1, q2, q3, q4, Nat.le_trans (of_decide_eq_true h3) (by decide)⟩
theorem rgOk_of {a b : Int} (h0 : -4611686018427387904 < a) (h1 : a < 4611686018427387904) (h2 : -4611686018427387904 < b) (h3 : b < 4611686018427387904) (h4 : b - a ≤ 1000000) : rgOk a b = true := by
  unfold rgOk
  rw [rgB_of h0 h1, rgB_of h2 h3, Bool.true_and, Bool.true_and]
  exact decide_eq_true (by omega)
theorem rgV_rep {H : Hp} {L : Addr → Prop} (a b : Int) : Reps H L (rangeD a b) (rgV a b) := by
  unfold rangeD rgV
  generalize (List.range (b - a).toNat) = l
  induction l with
  | nil => rfl
  | cons x l ih => exact Reps.cons rfl ih
@[simp] def dRgT : D → D → Option D
  | .int i, .int j => if rgOk i j = true then some (.tup (rangeD i j)) else none
  | _, _ => none
@[simp] def dRgL : D → D → Option D
  | .int i, .int j => if rgOk i j = true then some (.lst (rangeD i j)) else none
  | _, _ => none
theorem ge_tupleRg2 (hc : X.calm = true) (ha : GE X Γ W a fa f) (hb : GE X Γ W b fb g) (hm : X.mg "tuple" = none) (hm2 : X.mg "range" = none) (hg : Gl X "tuple" := by rfl) (hg2 : Gl X "range" := by rfl)
    (na : starEach [a, b] X.env = (false, eval a X.env) :: starEach [b] X.env := by rfl) (nb : starEach [b] X.env = (false, eval b X.env) :: starEach [] X.env := by rfl) (hp : (backTo pos2 (starEach [b] X.env)).any (·.1) = false := by rfl)
    (nc : starEach [.Call (.Name "range" p2) [a, b] [] pos2] X.env = (false, eval (.Call (.Name "range" p2) [a, b] [] pos2) X.env) :: starEach [] X.env := by rfl) :
    GE X Γ W (.Call (.Name "tuple" p) [.Call (.Name "range" p2) [a, b] [] pos2] [] pos) .all (s2 dRgT f g) := by
  refine ⟨PE.weak (pe_tupRg hc hg hm (prg_2 hg2 hm2 ha.pe hb.pe na nb hp) nc) ?_⟩
  rintro σ H Q ⟨B, F, env, ok, h⟩
  refine bin_ok (fa := fa) (fb := fb) ok h fun x y e2 u v H2 F2 ok2 g2 ru rv h2 => ?_
  cases q : dRgT x y with
  | none => rw [q] at h2; exact h2.elim
  | some d =>
    rw [q] at h2
    unfold dRgT at q
    split at q
    · rename_i i j
      split at q
      · rename_i hr
        cases q
        cases (show u = _ from ru.x)
        cases (show v = _ from rv.x)
        exact ⟨i, j, rfl, rfl, rgOk_ok hr, fun p hp => h2 _ _ (ok2.alloc hp) (go_alloc hp) _ ⟨p, _, rfl, .inl upd_same, (rgV_rep i j)⟩⟩
      · cases q
    · cases q
theorem ge_listRg2 (hc : X.calm = true) (ha : GE X Γ W a fa f) (hb : GE X Γ W b fb g) (hm : X.mg "list" = none) (hm2 : X.mg "range" = none) (hg : Gl X "list" := by rfl) (hg2 : Gl X "range" := by rfl)
    (na : starEach [a, b] X.env = (false, eval a X.env) :: starEach [b] X.env := by rfl) (nb : starEach [b] X.env = (false, eval b X.env) :: starEach [] X.env := by rfl) (hp : (backTo pos2 (starEach [b] X.env)).any (·.1) = false := by rfl)
    (nc : starEach [.Call (.Name "range" p2) [a, b] [] pos2] X.env = (false, eval (.Call (.Name "range" p2) [a, b] [] pos2) X.env) :: starEach [] X.env := by rfl) :
    GE X Γ W (.Call (.Name "list" p) [.Call (.Name "range" p2) [a, b] [] pos2] [] pos) .all (s2 dRgL f g) := by
  refine ⟨PE.weak (pe_listRg hc hg hm (prg_2 hg2 hm2 ha.pe hb.pe na nb hp) nc) ?_⟩
  rintro σ H Q ⟨B, F, env, ok, h⟩
  refine bin_ok (fa := fa) (fb := fb) ok h fun x y e2 u v H2 F2 ok2 g2 ru rv h2 => ?_
  cases q : dRgL x y with
  | none => rw [q] at h2; exact h2.elim
  | some d =>
    rw [q] at h2
    unfold dRgL at q
    split at q
    · rename_i i j
      split at q
      · rename_i hr
        cases q
        cases (show u = _ from ru.x)
        cases (show v = _ from rv.x)
        exact ⟨i, j, rfl, rfl, rgOk_ok hr, fun p hp => h2 _ _ (ok2.alloc hp) (go_alloc hp) _ (RepK.mkLst (k := .all) upd_same ⟨g2.free hp, ok2.notF hp⟩ (rgV_rep i j) rfl)⟩
      · cases q
    · cases q

/-! a new town -/
@[simp] def sTown (i : Nat) : En → Out Fl := fun e => match e[i]? with
  | some none => .ok .nx (e.set i (some (.town 0)))
  | _ => .stuck
theorem gs_town (i : Nat) (hN : X.N.Nodup) (hx : i ∈ Γ.X := by (try dsimp only); decide) (hp : i ∉ Γ.P := by (try dsimp only); decide) (hi : X.N[i]? = some x := by rfl) (hl : Loc X.env.scope x := by first | exact Or.inl rfl | exact Or.inr rfl)
    (hs : swapsWith (.List [] p2) (some (.Name x p)) pos.line X.env = pure false := by rfl) (hf : X.fn x = true ∨ X.env.scope.names.lookup x = some .local := by first | exact .inl rfl | exact .inr rfl) :
    GS X Γ W (.Assign [.Name x p] (.List [] p2) pos) (sTown i) := by
  refine ⟨PS.weak (ps_set hN hi hl (pe_lst pa_nil) hs hf) ?_⟩
  rintro D σ H ⟨B, F, env, ok, h⟩
  unfold sTown at h
  split at h
  · rename_i e0
    refine ⟨Nat.zero_le _, fun q hq => ?_⟩
    refine h _ _ _ (ok.own (.inr hx) hp (fun r hr er => ?_) hq trivial fun F' e _ => ?_)
    · obtain ⟨d', hd⟩ := ok.xdef r hr (er ▸ hx)
      rw [er, e0] at hd
      cases hd
    · unfold SlotOk
      rw [if_pos hx]
      exact ⟨q, rfl, e, upd_same⟩
  · exact h.elim

/-! ### three names at once -/
@[simp] def sPar3 (i j l : Nat) (k1 k2 k3 : Fk) (f g h : En → Out D) : En → Out Fl := fun e => (f e).bind fun d e1 => (g e1).bind fun d2 e2 => (h e2).bind fun d3 e3 =>
  if (okB k1 d && (okB k2 d2 && okB k3 d3)) = true then .ok .nx (((e3.set i (some d)).set j (some d2)).set l (some d3)) else .stuck
theorem gs_par3 {px py pz pt : Pos} {kt k2 pt2} (i j l : Nat) (hc : X.calm = true) (hN : X.N.Nodup) (ha : GE X Γ W a fa f) (hb : GE X Γ W b fb g) (hcc : GE X Γ W c fc h)
    (hxi : i ∉ Γ.X := by (try dsimp only); decide) (hmi : i ∉ Γ.M := by (try dsimp only); decide) (hpi : i ∉ Γ.P := by (try dsimp only); decide) (hxj : j ∉ Γ.X := by (try dsimp only); decide) (hmj : j ∉ Γ.M := by (try dsimp only); decide) (hpj : j ∉ Γ.P := by (try dsimp only); decide)
    (hxl : l ∉ Γ.X := by (try dsimp only); decide) (hml : l ∉ Γ.M := by (try dsimp only); decide) (hpl : l ∉ Γ.P := by (try dsimp only); decide)
    (hi : X.N[i]? = some x := by rfl) (hj : X.N[j]? = some y := by rfl) (hl : X.N[l]? = some z := by rfl) (hij : i ≠ j := by decide) (hil : i ≠ l := by decide) (hjl : j ≠ l := by decide)
    (hx : X.env.scope.names.lookup x = some .local := by rfl) (hy : X.env.scope.names.lookup y = some .local := by rfl) (hz : X.env.scope.names.lookup z = some .local := by rfl)
    (hw : swappedStores [.Tuple [.Name x px, .Name y py, .Name z pz] kt pt] (.Tuple [a, b, c] k2 pt2) X.env = pure (some [x, y, z]) := by rfl)
    (hs : swapsWithSole [.Tuple [.Name x px, .Name y py, .Name z pz] kt pt] (.Tuple [a, b, c] k2 pt2) pos.line X.env = pure false := by rfl)
    (hs1 : starEach [a, b, c] X.env = (false, eval a X.env) :: starEach [b, c] X.env := by rfl) (hs2 : starEach [b, c] X.env = (false, eval b X.env) :: starEach [c] X.env := by rfl) (hs3 : starEach [c] X.env = (false, eval c X.env) :: starEach [] X.env := by rfl) :
    GS X Γ W (.Assign [.Tuple [.Name x px, .Name y py, .Name z pz] kt pt] (.Tuple [a, b, c] k2 pt2) pos) (sPar3 i j l fa fb fc f g h) := by
  refine ⟨PS.weak (ps_par3 hc hN hi hj hl hij hil hjl hx hy hz (pa_cons ha.pe (pa_cons hb.pe (pa_cons hcc.pe pa_nil hs3) hs2) hs1) hw hs) ?_⟩
  rintro D σ H ⟨B, F, env, ok, h⟩
  refine ⟨B, F, env, ok, oE.imp (oS.bind h) fun d e1 H1 F1 _ _ ⟨ok1, g1, h1⟩ v rv => ?_⟩
  refine ⟨B, F1, e1, ok1, oE.imp (oS.bind h1) fun d2 e2 H2 F2 _ _ ⟨ok2, g2, h2⟩ v2 rv2 => ?_⟩
  refine ⟨B, F2, e2, ok2, oE.imp (oS.bind h2) fun d3 e3 H3 F3 _ _ ⟨ok3, g3, h3⟩ v3 rv3 => ?_⟩
  split at h3
  · rename_i hk
    rw [Bool.and_eq_true, Bool.and_eq_true] at hk
    exact ⟨v, v2, v3, rfl, h3 _ H3 F3 (((ok3.set hxi hmi hpi (RepK.okB hk.1 (g3.repK (g2.repK rv)))).set hxj hmj hpj (RepK.okB hk.2.1 (g3.repK rv2))).set hxl hml hpl (RepK.okB hk.2.2 rv3))⟩
  · exact h3.elim
end
end Ev

set_option Elab.async false
set_option linter.all false
set_option maxRecDepth 100000
set_option maxHeartbeats 4000000
/-! Ev13: the script. -/
namespace Ev
open PySem L2
theorem Rep.scr {K : PySem.W.Frag} {H : Hp} {L : Addr → Prop} {ns : List Int} {v : V} (h : Rep H L (.scr K ns) v) : ∃ a, v = .ref a ∧ SqL K H a (ns.map V.int) := by
  obtain ⟨a, e, h1⟩ := h
  exact ⟨a, e, h1.imp (fun ⟨o, h⟩ => .inr ⟨o, h⟩) id⟩
theorem ints_reps {H : Hp} {L : Addr → Prop} : ∀ ns : List Int, Reps H L (ns.map D.int) (ns.map V.int)
  | [] => rfl
  | n :: ns => Reps.cons rfl (ints_reps ns)
open Classical in
noncomputable def oScrLen (K : PySem.W.Frag) : List D → Option D
  | [.scr K' ns] => if K' = K then some (.int ns.length) else none
  | _ => none
theorem h_scrLen {X : Cx} : HCall (fun xs H Q => ∃ x n, xs = [x] ∧ LenV X.K x H n ∧ Q (.int n) H) (oScrLen X.K) .all := fun ds d q Γ al Hs F H vs Q nf rv k => by
  unfold oScrLen at q
  split at q
  · rename_i K' ns
    split at q
    · rename_i hK
      subst hK
      cases q
      obtain ⟨v, rfl, h⟩ := rv.one_inv
      obtain ⟨a, rfl, hS⟩ := Rep.scr h
      exact ⟨_, (ns.map V.int).length, rfl, .inl ⟨_, hS, rfl⟩, by rw [List.length_map]; exact k _ _ (Same.refl H) (RepK.sc rfl)⟩
    · cases q
  · cases q
open Classical in
noncomputable def oScrEq (K : PySem.W.Frag) (x y : D) : Option D := match x with
  | .scr K' ns => if K' = K then oEq (.lst (ns.map .int)) y else none
  | _ => none
theorem hop_scrEq {K : PySem.W.Frag} : HOp (rEqD K) (oScrEq K) := fun x y d q => by
  unfold oScrEq at q
  split at q
  · rename_i K' ns
    split at q
    · rename_i hK
      subst hK
      unfold oEq at q
      split at q
      · rename_i h
        cases q
        refine ⟨rfl, fun H L u v Q ru rv k => ?_⟩
        obtain ⟨a, rfl, hS⟩ := Rep.scr ru
        refine ⟨_, _, .lst hS (Reps.dp (n := 8) (L := fun _ => True) (by simpa [shp] using h.1) (ints_reps ns)), rv.dp h.2, shaped_of h.1, shaped_of h.2, k⟩
      · cases q
    · cases q
  · cases q
open Classical in
noncomputable def oScrIx (K : PySem.W.Frag) (x y : D) : Option D := match x, y with
  | .scr K' ns, .int i => if K' = K then (atI ns i).map .int else none
  | _, _ => none
theorem hop_scrIx {K : PySem.W.Frag} : HOpH (rIx K) (oScrIx K) kIx := fun x y d q Γ ka kb Hs F H u v Q nf ru rv k => by
  unfold oScrIx at q
  split at q
  · rename_i K' ns i
    split at q
    · rename_i hK
      subst hK
      obtain ⟨a, rfl, hS⟩ := Rep.scr ru.x
      cases q1 : atI ns i with
      | none => rw [q1] at q; cases q
      | some m =>
        rw [q1] at q
        cases q
        have e : atI (ns.map V.int) i = some (.int m) := by
          unfold atI at q1 ⊢
          rw [List.length_map]
          cases q2 : ixN ns.length i with
          | none => rw [q2] at q1; cases q1
          | some j =>
            rw [q2] at q1
            show (ns.map V.int)[j]? = _
            rw [List.getElem?_map, (show ns[j]? = some m from q1)]
            rfl
        exact .inl ⟨a, _, _, _, rfl, rv.x, hS, e, k _ _ (Same.refl H) (RepK.sc rfl)⟩
    · cases q
  · cases q
section
variable {X : Cx} {Γ : Cy} {W : WX} {pos : Pos} {a b c : Expr} {fa fb fc : Fk} {f g h : En → Out D}
theorem ge_scrIx (ha : GE X Γ W a fa f) (hb : GE X Γ W b fb g) (hs : PlainIx b := by intro _ _; rfl) : GE X Γ W (.Subscript a b pos) (kIx fa fb) (s2 (oScrIx X.K) f g) := ge_opH (fun p q => pe_ix ix_seq p q hs) hop_scrIx ha hb
theorem c_scrEq (hu : X.A.units + 64 < cLine) : CmpOk X .Eq (oScrEq X.K) := ⟨_, op_eqD hu, hop_scrEq⟩
end

/-! ### the town -/
section
variable {Γ : Cy} {B : Base} {F : Fp} {σ : L2.St} {H : Hp} {env : En}
/-- a place of the object's own gets another thing -/
theorem StOk.mutX (ok : StOk Γ B F σ H env) {i : Nat} {a : Addr} {o0 o1 : HO} {d0 d : D} {v : V} (hx : i ∈ Γ.X) (he : env[i]? = some (some d0)) (hv : σ[i]? = some (some v)) (ha : a ∈ F i) (hA : H a = some o0) (m0 : Mut (some o0)) (m1 : Mut (some o1)) (so : XOk Γ.C (upd H a o1) (F i) d v) :
    StOk Γ B F σ (upd H a o1) (env.set i (some d)) := by
  have kp : ∀ b o, b ≠ a → H b = some o → upd H a o1 b = some o := fun b o q e => by rw [upd_ne q]; exact e
  have neL : ∀ {b : Addr}, La F b → b ≠ a := fun {b} l e => l i (by rw [e]; exact ha)
  have neT : ∀ {b : Addr} {zs : FzO}, H b = some zs.1 → b ≠ a := fun {b zs} q e => by rw [e, hA] at q; exact fz_not zs (by rw [← Option.some.inj q]; exact m0)
  have rs : ∀ {es : List D} {us : List V}, Reps H (La F) es us → Reps (upd H a o1) (La F) es us := fun {es us} r => r.imp (fun _ _ q => kp _ _ (neT q) q) fun _ _ q l => ⟨kp _ _ (neL l) q, l⟩
  refine ⟨by rw [List.length_set]; exact ok.len, fun b h => upd_dom (ok.dom b h), fun b o h hw => kp b o (fun e => ?_) (ok.keep b o h hw), fun j d' e => ?_, ok.disj, ok.orig, fun j b hb => ?_, ok.xval, fun q hq hX => ?_, fun b h => upd_dom (ok.entD b h), ok.entF, ok.xvx, ok.newv⟩
  · subst e
    have q := ok.keep b o h hw
    rw [hA] at q
    cases q
    rcases ok.orig i b ha with z | z
    · exact hw m0 z
    · rw [h] at z; cases z
  · by_cases hj : i = j
    · subst hj
      have hl : i < env.length := by
        have := (List.getElem?_eq_some_iff.mp e).1
        rwa [List.length_set] at this
      rw [List.getElem?_set_self hl] at e
      cases e
      refine ⟨v, hv, ?_⟩
      unfold SlotOk
      rw [if_pos hx]
      exact so
    · rw [List.getElem?_set_ne hj] at e
      obtain ⟨w, h1, h2⟩ := ok.slot j d' e
      refine ⟨w, h1, ?_⟩
      unfold SlotOk at h2 ⊢
      split
      · rename_i hxj
        rw [if_pos hxj] at h2
        refine h2.stay (fun b hb o q => kp b o (fun e => ?_) q) fun b o q nm => kp b o (fun e => ?_) q
        · rw [e] at hb
          exact ok.disj i j a hj ha hb
        · rw [e, hA] at q
          cases q
          exact nm m0
      · rename_i hxj
        rw [if_neg hxj] at h2
        split
        · rename_i hmj
          rw [if_pos hmj] at h2
          obtain ⟨es, c, zs, e1, e2, e3, e4, e5⟩ := h2
          refine ⟨es, c, zs, e1, e2, e3, kp _ _ (fun e => ?_) e4, rs e5⟩
          refine ok.disj i j a hj ha ?_
          rw [e3, e]; simp
        · rename_i hmj
          rw [if_neg hmj] at h2
          exact h2.imp (fun _ _ q => kp _ _ (neT q) q) fun _ _ q l => ⟨kp _ _ (neL l) q, l⟩
  · obtain ⟨o, e, m⟩ := ok.trk j b hb
    by_cases q : b = a
    · rw [q]; exact ⟨_, upd_same, m1⟩
    · exact ⟨o, kp b o q e, m⟩
  · obtain ⟨d', h⟩ := ok.xdef q hq hX
    by_cases qi : i = q.1
    · refine ⟨d, ?_⟩
      have hl : i < env.length := (List.getElem?_eq_some_iff.mp he).1
      rw [← qi, List.getElem?_set_self hl]
    · exact ⟨d', by rw [List.getElem?_set_ne qi]; exact h⟩
theorem StOk.atX (ok : StOk Γ B F σ H env) {i : Nat} {d : D} (hx : i ∈ Γ.X) (he : env[i]? = some (some d)) : ∃ v, σ[i]? = some (some v) ∧ XOk Γ.C H (F i) d v := by
  obtain ⟨v, e1, so⟩ := ok.slot i d he
  unfold SlotOk at so
  rw [if_pos hx] at so
  exact ⟨v, e1, so⟩
end
section
variable {X : Cx} {Γ : Cy} {W : WX} {pos p p1 p2 : Pos} {x : Str}
@[simp] def sTownLen (i : Nat) : En → Out D := fun e => match e[i]? with
  | some (some (.town k)) => .ok (.int k) e
  | _ => .stuck
theorem ge_townLen (i : Nat) (hm : X.mg "len" = none) (hx : i ∈ Γ.X := by (try dsimp only); decide) (hN : X.N[i]? = some x := by rfl) (hv : Vis X.env.scope x := by first | exact Or.inl rfl | exact Or.inr (Or.inl rfl) | exact Or.inr (Or.inr rfl)) (hg : Gl X "len" := by rfl)
    (hd : (x == ("__debug__" : Str)) = false := by decide) (hcd : (x == ("__classdict__" : Str)) = false := by decide)
    (he : starEach [.Name x p1] X.env = (false, eval (.Name x p1) X.env) :: starEach [] X.env := by rfl) (hpl : (backTo pos (starEach [] X.env)).any (·.1) = false := by rfl) :
    GE X Γ W (.Call (.Name "len" p) [.Name x p1] [] pos) .all (sTownLen i) := by
  refine ⟨PE.weak (pe_callB call_len hg hm (by decide +kernel) (pa_cons (pe_var hN hv hd hcd) pa_nil he) (by decide) (by decide) he hpl) ?_⟩
  rintro σ H Q ⟨B, F, env, ok, h⟩
  unfold sTownLen at h
  split at h
  · rename_i k e
    obtain ⟨v, e1, a, rfl, hF, hA⟩ := ok.atX hx e
    refine ⟨_, e1, _, (List.replicate k (V.int 0)).length, rfl, .inl ⟨_, SqL.of hA, rfl⟩, ?_⟩
    rw [List.length_replicate]
    exact h.here ok _ rfl
  · exact h.elim
@[simp] def sTownAdd (i : Nat) : En → Out Fl := fun e => match e[i]? with
  | some (some (.town k)) => if lim k = true then .ok .nx (e.set i (some (.town (k + 1)))) else .stuck
  | _ => .stuck
theorem gs_townAdd {apos cpos pc : Pos} {j : Nat} (i : Nat) (hx : i ∈ Γ.X := by (try dsimp only); decide) (hi : X.N[i]? = some x := by rfl) (hv : Vis X.env.scope x := by first | exact Or.inl rfl | exact Or.inr (Or.inl rfl) | exact Or.inr (Or.inr rfl))
    (hd : (x == ("__debug__" : Str)) = false := by decide) (hcd : (x == ("__classdict__" : Str)) = false := by decide)
    (hs1 : starEach [.Constant (.int 0) j pc] X.env = (false, eval (.Constant (.int 0) j pc) X.env) :: starEach [] X.env := by rfl)
    (hPE : ∀ {ta : TE} {t : TA}, PE X (.Name x p) ta → PA X [.Constant (.int 0) j pc] t → PE X (.Call (.Attribute (.Name x p) "append" apos) [.Constant (.int 0) j pc] [] cpos) (tBM X.K "list" rAppend ta t) := by exact fun h1 h2 => pe_bm PySem.F.plainAttrs_list PySem.F.slot_list_append PySem.F.type_list_append mt_append h1 h2)
    (hs : swapsWith (.Call (.Attribute (.Name x p) "append" apos) [.Constant (.int 0) j pc] [] cpos) none pos.line X.env = pure false := by rfl) :
    GS X Γ W (.Expr (.Call (.Attribute (.Name x p) "append" apos) [.Constant (.int 0) j pc] [] cpos) pos) (sTownAdd i) := by
  refine ⟨PS.weak (ps_expr (hPE (pe_var hi hv hd hcd) (pa_cons pe_int pa_nil hs1)) hs) ?_⟩
  rintro D σ H ⟨B, F, env, ok, h⟩
  unfold sTownAdd at h
  split at h
  · rename_i k e
    split at h
    · rename_i hl
      obtain ⟨v, e1, a, rfl, hF, hA⟩ := ok.atX hx e
      refine ⟨_, e1, .inl ⟨rfl, _, .inl (.inl hA)⟩, a, List.replicate k (V.int 0), .int 0, rfl, rfl, hA, by rw [List.length_replicate]; exact Nat.lt_of_le_of_lt (of_decide_eq_true hl) (by decide), ?_⟩
      refine h _ _ _ (ok.mutX hx e e1 (by rw [hF]; simp) hA trivial trivial ⟨a, rfl, hF, ?_⟩)
      rw [upd_same, List.replicate_succ']
    · exact h.elim
  · exact h.elim
end
end Ev

set_option Elab.async false
set_option linter.all false
set_option maxRecDepth 100000
set_option maxHeartbeats 4000000
/-! Ev14: a law's end. -/
namespace Ev
open PySem L2 PySem.Calls
/-- more turns than any loop here takes -/
def fuelW : Nat := 2 ^ 4096
def Bits (ns : List Int) : Prop := ns.length ≤ 63 ∧ ∀ z ∈ ns, Builtin.Int.intBits z ≤ 1048576
def spLaw (K : PySem.W.Frag) : Sp := fun vs H Q _ => ∃ (a : Addr) (ns : List Int), vs = [.ref a] ∧ Only H ∧ SqL K H a (ns.map V.int) ∧ Bits ns ∧ ∀ v H', v = .bl true → Q v H'
theorem spLaw_of {K : PySem.W.Frag} {C : Addr} {exc : Nat → Addr} {Φ : List D → COut} (hΦ : ∀ ns : List Int, Bits ns → ∃ xs, Φ [.scr K ns] = .ok (.bl true) xs) (vs : List V) (H : Hp) (Q : VK) (E : XK) (h : spLaw K vs H Q E) : spD C exc 1 [] Φ vs H Q E := by
  obtain ⟨a, ns, rfl, hO, hS, hB, k⟩ := h
  obtain ⟨xs, e⟩ := hΦ ns hB
  refine ⟨[.scr K ns], fun _ => [], rfl, ⟨rfl, fun i d e => ?_, (fun _ _ _ _ h => by cases h), (fun _ _ => rfl), (fun _ h => by cases h)⟩, ?_⟩
  · cases i with
    | zero =>
      cases e
      refine ⟨.ref a, rfl, ?_⟩
      rw [if_neg (by simp)]
      refine ⟨a, rfl, ?_⟩
      rcases hS with (h | ⟨o, h⟩) | h
      · rcases hO a with z | ⟨o, xs, z⟩
        · rw [h] at z; cases z
        · rw [h] at z; cases z
      · exact .inl ⟨o, h⟩
      · exact .inr h
    | succ i => cases e
  · rw [e]
    exact fun v H' F' _ _ r => k v H' r
theorem cx_end {P : Program} {w : World} {H : Hp} {s : Shared} {e : Value} {s' : Shared} (h : L2.CX P w [] H s (fun _ _ _ => False) e s') : False := by
  obtain ⟨_, _, _, _, _, _, _, _, _, _, _, _, h⟩ := h
  exact h
theorem walk {l : PySem.W.OpenLaw} {q : Program} {loose : List Str} {XP : (Str → Option Value) → Heap → Prop} {YP : World → Heap → Prop} {d : DefRec} {K : Params → PySem.W.Frag} {k : Nat} (hn : l.most = some 63) (hdf : d.params.defaults = []) (hr : Room k callerA)
    (hY : ∀ (w : World) (h : Heap), YP w h → (K w.params).In h)
    (F : ∀ (w : World) (mg : Str → Option Value) (fa : Addr) (h : Heap), (K w.params).In h → h.Ns mainGlobals mg → mg d.name = some (.ref fa) →
      ∃ fd : FuncData, (∀ (s : Shared) (u : Value), BindsTo s fd ⟨[u], []⟩ [("_law_script", u)]) ∧ ∀ base : Heap, (K w.params).In base → base.Ns mainGlobals mg → FnOk l.prog w (K w.params) mg base (L2.CX l.prog w) k fa fd ["_law_script"] (spLaw (K w.params))) :
    PySem.W.WalkO q loose XP YP l.row.toRowW d [] (fun f vs => PySem.call f vs) :=
  L2.walk_ofB (n := 63) (k := k) (x := "_law_script") (CX := fun w => L2.CX l.prog w) (sp := fun w => spLaw (K w.params)) hn (by decide) hdf hr hY F (fun _ _ a ns hl hb hO hS => ⟨a, ns, rfl, hO, hS, ⟨hl, hb⟩, fun _ _ e => e⟩) fun _ _ _ _ _ z => cx_end z
end Ev

set_option Elab.async false
set_option linter.all false
set_option maxRecDepth 100000
set_option maxHeartbeats 4000000
/-! Ev15: a list that a call hands back, kept; a def that calls itself. -/
namespace Ev
open PySem L2
section
variable {Γ : Cy} {B : Base} {F : Fp} {σ : L2.St} {H H1 : Hp} {env : En}
theorem StOk.adopt (ok : StOk Γ B F σ H env) (kp : Same H H1) {i : Nat} {a : Addr} {xs : List V} {ds : List D} (hi : i ∈ Γ.M) (hx : i ∉ Γ.X) (hp' : i ∉ Γ.P) (hp : H a = none) (hA : H1 a = some (.lst xs)) {L : Addr → Prop} (r : Reps H1 L ds xs) (hl : lfrees ds = true) :
    StOk Γ B (setF F i [a]) (σ.set i (some (.ref a))) H1 (env.set i (some (.lst ds))) := by
  have hF := ok.notF hp
  have hxv := ok.xv_ne hx hp'
  have tr : ∀ {b : Addr} {u : HO}, H b = some u → La F b → La (setF F i [a]) b := fun {b u} q l j hj => by
    rcases setF_mem hj with ⟨_, z⟩ | ⟨_, z⟩
    · have e : b = a := by simpa using z
      rw [e, hp] at q; cases q
    · exact l j z
  have trs : ∀ {ds : List D} {xs : List V}, Reps H (La F) ds xs → Reps H1 (La (setF F i [a])) ds xs := fun {ds xs} r => r.imp (fun _ _ q => kp _ _ q) fun _ _ q l => ⟨kp _ _ q, tr q l⟩
  have hB : ∀ {G : Hp}, (∀ b, G b ≠ none → H b ≠ none) → G a = none := fun {G} h => by
    cases q : G a with
    | none => rfl
    | some u => exact absurd hp (h a (by rw [q]; simp))
  have ok' := ok.kept kp
  refine ⟨by rw [List.length_set, List.length_set]; exact ok.len, ok'.dom, ok'.keep, fun j d' e => ?_, fun j k b hne hb hb' => ?_, fun j b hb => ?_, fun j b hb => ?_, fun q hq => ?_, fun q hq hX => ?_, ok'.entD, fun j hj b hb => ?_, ok'.xvx, fun j hj a e => ok'.newv j hj a (by rwa [List.getElem?_set_ne (fun z => hp' (by rw [z]; exact hj))] at e)⟩
  · by_cases hj : i = j
    · subst hj
      have hl' : i < env.length := by
        have := (List.getElem?_eq_some_iff.mp e).1
        rwa [List.length_set] at this
      rw [List.getElem?_set_self hl'] at e
      cases e
      refine ⟨.ref a, List.getElem?_set_self (by rw [ok.len]; exact hl'), ?_⟩
      unfold SlotOk
      rw [if_neg hx, if_pos hi]
      exact ⟨ds, a, xs, rfl, rfl, setF_eq, hA, r.lf hl⟩
    · rw [List.getElem?_set_ne hj] at e
      obtain ⟨w, h1, h2⟩ := ok.slot j d' e
      refine ⟨w, by rw [List.getElem?_set_ne hj]; exact h1, ?_⟩
      have ej : setF F i [a] j = F j := setF_ne fun z => hj z.symm
      unfold SlotOk at h2 ⊢
      split
      · rename_i hx
        rw [if_pos hx] at h2
        rw [ej]
        exact h2.keep kp
      · rename_i hx
        rw [if_neg hx] at h2
        split
        · rename_i hm
          rw [if_pos hm] at h2
          obtain ⟨ds, a, xs, e1, e2, e3, e4, e5⟩ := h2
          exact ⟨ds, a, xs, e1, e2, ej.trans e3, kp _ _ e4, trs e5⟩
        · rename_i hm
          rw [if_neg hm] at h2
          exact h2.imp (fun _ _ q => kp _ _ q) fun _ _ q l => ⟨kp _ _ q, tr q l⟩
  · rcases setF_mem hb with ⟨rfl, z⟩ | ⟨hj, z⟩
    · have e : b = a := by simpa using z
      subst e
      rcases setF_mem hb' with ⟨rfl, _⟩ | ⟨_, z'⟩
      · exact hne rfl
      · exact hF k z'
    · rcases setF_mem hb' with ⟨rfl, z'⟩ | ⟨_, z'⟩
      · have e : b = a := by simpa using z'
        subst e
        exact hF j z
      · exact ok.disj j k b hne z z'
  · rcases setF_mem hb with ⟨_, z⟩ | ⟨_, z⟩
    · have e : b = a := by simpa using z
      subst e
      exact .inr (hB ok.dom)
    · exact ok.orig j b z
  · rcases setF_mem hb with ⟨_, z⟩ | ⟨_, z⟩
    · have e : b = a := by simpa using z
      subst e
      exact ⟨_, hA, trivial⟩
    · exact ok'.trk j b z
  · obtain ⟨h1, h2⟩ := ok.xval q hq
    exact ⟨h1, by rw [List.getElem?_set_ne fun z => hxv q hq z.symm]; exact h2⟩
  · obtain ⟨d', h⟩ := ok.xdef q hq hX
    exact ⟨d', by rw [List.getElem?_set_ne fun z => hxv q hq z.symm]; exact h⟩
  · rcases setF_mem hb with ⟨_, z⟩ | ⟨_, z⟩
    · have e : b = a := by simpa using z
      subst e
      exact hB ok.entD
    · exact ok.entF j hj b z
end
section
variable {X : Cx} {Γ : Cy} {W : WX} {pos p p2 : Pos} {e c : Expr} {k : Fk} {fe : En → Out D} {fc : En → Out Bool} {x : Str}
theorem ge_globI {i : Int} (h : ∃ t, X.mg x = some (.int i t)) (hg : Gl X x := by rfl) (hdb : (x == ("__debug__" : Str)) = false := by decide) : GE X Γ W (.Name x pos) .all (sC (.int i)) := by
  obtain ⟨t, h⟩ := h
  exact ge_glob (v := .int i) (.int i) h ⟨t, rfl⟩ (fun _ _ => rfl) hg hdb
theorem ge_globS {z : Str} (h : ∃ t, X.mg x = some (.str z t)) (hg : Gl X x := by rfl) (hdb : (x == ("__debug__" : Str)) = false := by decide) : GE X Γ W (.Name x pos) .all (sC (.str z)) := by
  obtain ⟨t, h⟩ := h
  exact ge_glob (v := .str z) (.str z) h ⟨t, rfl⟩ (fun _ _ => rfl) hg hdb
/-- name = f(..), the list that f hands back becomes the name's own -/
@[simp] def sSetA (i : Nat) (f : En → Out D) : En → Out Fl := fun e => match f e with
  | .ok (.lst ds) _ => if lfrees ds = true then .ok .nx (e.set i (some (.lst ds))) else .stuck
  | .raise c e1 => .raise c e1
  | _ => .stuck
theorem gs_setA (i : Nat) (hN : X.N.Nodup) (he : GE X Γ W e .all fe) (hX : Γ.X = [] := by rfl) (hm : i ∈ Γ.M := by (try dsimp only); decide) (hp : i ∉ Γ.P := by (try dsimp only); decide) (hi : X.N[i]? = some x := by rfl) (hl : Loc X.env.scope x := by first | exact Or.inl rfl | exact Or.inr rfl)
    (hs : swapsWith e (some (.Name x p)) pos.line X.env = pure false := by rfl) (hf : X.fn x = true ∨ X.env.scope.names.lookup x = some .local := by first | exact .inl rfl | exact .inr rfl) : GS X Γ W (.Assign [.Name x p] e pos) (sSetA i fe) := by
  refine ⟨PS.weak (ps_set hN hi hl he.pe hs hf) ?_⟩
  rintro D σ H ⟨B, F, env, ok, h⟩
  refine ⟨B, F, env, ok, ?_⟩
  unfold sSetA at h
  cases q : fe env with
  | stuck => rw [q] at h; exact h.elim
  | raise c e1 =>
    rw [q] at h
    intro H1 F1 s1 g1
    exact h σ H1 F1 s1
  | ok d e1 =>
    rw [q] at h
    intro H1 F1 s1 g1 v rv
    cases d with
    | lst ds =>
      simp only at h
      split at h
      · rename_i hk
        obtain ⟨a, xs, rfl, hA, hL, rA⟩ := rv
        refine h _ H1 _ (ok.adopt (fun b o hb => g1.keep b o hb fun _ j hj => ?_) hm ?_ hp hL.1 hA rA hk)
        · rw [hX] at hj; cases hj
        · rw [hX]; simp
      · exact h.elim
    | _ => exact h.elim
/-- return e if c else name, the name's list its own -/
theorem gs_retIf (i : Nat) (hc : GT X Γ W c fc) (he : GE X Γ W e k fe) (hx : i ∉ Γ.X := by (try dsimp only); decide) (hm : i ∈ Γ.M := by (try dsimp only); decide) (hN : X.N[i]? = some x := by rfl) (hv : Vis X.env.scope x := by first | exact Or.inl rfl | exact Or.inr (Or.inl rfl) | exact Or.inr (Or.inr rfl)) (hd : (x == ("__debug__" : Str)) = false := by decide)
    (hcd : (x == ("__classdict__" : Str)) = false := by decide) : GS X Γ W (.Return (some (.IfExp c e (.Name x p) p2)) pos) (sIfS fc (sRet k fe) (sRetM i)) := by
  refine ⟨PS.weak (ps_ret (pe_ifExp hc.pt he.pe (pe_var hN hv hd hcd))) ?_⟩
  rintro D σ H ⟨B, F, env, ok, h⟩
  refine ⟨B, F, env, ok, oE.imp (oS.bind h) fun t e1 H1 F1 _ _ ⟨ok1, g1, h1⟩ => ?_⟩
  cases t with
  | true =>
    refine ⟨B, F1, e1, ok1, oE.imp (oS.bind h1) fun d e2 H2 F2 _ _ ⟨ok2, g2, h2⟩ v rv => ?_⟩
    split at h2
    · rename_i hk
      refine h2 v σ H2 F2 ok2 ((RepK.ok hk rv).imp (fun _ _ q => q) fun a xs q l => ⟨q, ?_, fun i _ => l.2 i⟩)
      cases q : B.E a with
      | none => rfl
      | some o => exact absurd l.1 (ok1.entD a (by rw [q]; simp))
    · exact h2.elim
  | false =>
    have h1' : oS Γ W B (sRetM i e1) D := h1
    unfold sRetM at h1'
    split at h1'
    · rename_i ds e0
      split at h1'
      · rename_i hl
        obtain ⟨v, e2, so⟩ := ok1.slot i _ e0
        unfold SlotOk at so
        rw [if_neg hx, if_pos hm] at so
        obtain ⟨ds', a, xs, q1, rfl, q3, q4, q5⟩ := so
        cases q1
        refine ⟨_, e2, h1' _ σ H1 F1 ok1 ⟨a, xs, rfl, q4, ⟨ok1.entF i hx a (by rw [q3]; simp), fun j hj => ok1.disj i j a ?_ (by rw [q3]; simp)⟩, q5.lf hl⟩⟩
        rintro rfl
        exact hx hj
      · exact h1'.elim
    · exact h1'.elim
end
section
variable {P : Program} {w : World} {K : PySem.W.Frag} {mg : Str → Option Value} {base : Heap} {C : Addr} {exc : Nat → Addr}
theorem fn_stuck {x qual : Str} {st : Stmt} {fa : Addr} {fd : FuncData} {N ps : List Str} {n kk : Nat} {xm : List Nat} (Fn : Fun K x qual st fa fd) (S : FnScope N ps (defScope st)) (hmg : mg x = some (.ref fa)) (hb : Binds K fd ps []) :
    FnD P w K mg base C exc x (kk + 1) n xm (fun _ => .stuck) := by
  refine ⟨fa, fd, ps, Fn.okX S (fun vs H Q E h => ?_) (fun cdv A outer s H vs Q E hr h => ?_), hmg, Fn.kp, hb⟩
  · obtain ⟨_, _, _, _, h⟩ := h
    exact h.elim
  · obtain ⟨_, _, _, _, h⟩ := h
    exact h.elim
theorem FnD.toStuck {x : Str} {kk n : Nat} {xm : List Nat} {Φ : List D → COut} (h : FnD P w K mg base C exc x kk n xm Φ) : FnD P w K mg base C exc x kk n xm (fun _ => .stuck) := h.imp fun _ _ => .inl rfl
end
end Ev

set_option Elab.async false
set_option linter.all false
set_option maxRecDepth 100000
set_option maxHeartbeats 4000000
/-! Ev16: try .. except; which of the own errors it was. -/
namespace Ev
open PySem L2 PyProof.Rows

/-! ### list.count, list.index of a truth value -/
def rCountB (K : PySem.W.Frag) : V → List V → Hp → VK → Prop := fun x xs H Q => ∃ (p : Addr) (ys : List V) (b : Bool), x = .ref p ∧ xs = [.bl b] ∧ SqL K H p ys ∧ ys.all flatV = true ∧ Q (.int ((ys.countP fun y => eqV y (.bl b) : Nat) : Int)) H
theorem countP_eqU {x : V} {xs : List V} {us : List Value} (h : Vals xs us) (f : xs.all flatV = true) : us.countP (eqU x) = xs.countP fun y => eqV y x := by
  induction h with
  | nil => rfl
  | cons r t ih =>
    rw [List.all_cons, Bool.and_eq_true] at f
    rw [List.countP_cons, List.countP_cons, eqU_of r f.1, ih f.2]
theorem mt_countB {X : Cx} : MtR X "list.count" (rCountB X.K) := by
  intro pins s σ H x xs v us Q I rx rxs h
  obtain ⟨p, ys, b, rfl, rfl, hs, fy, q⟩ := h
  cases rx
  obtain ⟨u, rfl, ru⟩ := rxs.one
  obtain ⟨its, rv, ⟨⟨kl, dd, dat, sls⟩, n, hget, hkl, hdd, hdat⟩, hsz⟩ := I.list hs
  dsimp only at hkl hdat
  subst hkl hdat
  refine call_meets PySem.F.slot_list_count ⟨_, hget, rfl⟩ PySem.F.entry_list_count (PySem.F.args_list_count_2 _ _) (SeqAt.list_countAt p its.toArray n dd sls u (eqU (.bl b))) ⟨hget, fun z hz => mem_eqAt ru rfl rv fy z (by simpa using hz), ?_⟩
  refine ⟨.int ((ys.countP fun y => eqV y (.bl b) : Nat) : Int), H, I.tok _, ⟨s.toks, ?_⟩, q⟩
  have e : its.toArray.toList.countP (eqU (.bl b)) = ys.countP fun y => eqV y (.bl b) := countP_eqU rv fy
  show Value.int _ _ = Value.int _ _
  rw [e]
def cntB (b : Bool) : List Bool → Nat
  | [] => 0
  | x :: xs => (if x = b then 1 else 0) + cntB b xs
def fstB (b : Bool) : List Bool → Option Nat
  | [] => none
  | x :: xs => if x = b then some 0 else (fstB b xs).map (· + 1)
def oCount : D → D → Option D
  | .lst ds, .bl b => (bls? ds).map fun bs => .int (cntB b bs)
  | _, _ => none
def oIndex : D → D → Option D
  | .lst ds, .bl b => (bls? ds).bind fun bs => (fstB b bs).map fun n => .int n
  | _, _ => none
theorem flat_bls : ∀ bs : List Bool, (bs.map V.bl).all flatV = true
  | [] => rfl
  | b :: bs => by rw [List.map_cons, List.all_cons, flat_bls bs]; rfl
theorem reps_bls {H : Hp} {L : Addr → Prop} : ∀ {bs : List Bool} {vs : List V}, Reps H L (bs.map D.bl) vs → vs = bs.map V.bl
  | [], vs, h => h
  | b :: bs, vs, h => by
    obtain ⟨x, r, rfl, h1, h2⟩ := h
    cases (show x = _ from h1)
    rw [reps_bls h2]; rfl
theorem cntB_eq (b : Bool) : ∀ bs : List Bool, (bs.map V.bl).countP (fun y => eqV y (.bl b)) = cntB b bs
  | [] => rfl
  | x :: bs => by
    rw [List.map_cons, List.countP_cons, cntB_eq b bs, cntB, Nat.add_comm]
    cases x <;> cases b <;> rfl
theorem fstB_ok (b : Bool) : ∀ {bs : List Bool} {j : Nat}, fstB b bs = some j → (bs.map V.bl)[j]? = some (.bl b) ∧ ∀ m z, m < j → (bs.map V.bl)[m]? = some z → eqV z (.bl b) = false
  | [], j, h => by cases h
  | x :: bs, j, h => by
    rw [fstB] at h
    split at h
    · rename_i e
      cases h
      subst e
      exact ⟨rfl, fun m z hm => by omega⟩
    · rename_i e
      cases q : fstB b bs with
      | none => rw [q] at h; cases h
      | some k =>
        rw [q] at h
        cases h
        obtain ⟨h1, h2⟩ := fstB_ok b q
        refine ⟨h1, fun m z hm hz => ?_⟩
        cases m with
        | zero =>
          cases hz
          cases x <;> cases b <;> first | rfl | exact absurd rfl e
        | succ m =>
          have hm : m + 1 < k + 1 := hm
          exact h2 m z (by omega) hz
section
variable {X : Cx} {Γ : Cy} {W : WX} {o e : Expr} {ko k : Fk} {fo fe : En → Out D} {apos cpos : Pos} {op : D → D → Option D} {r : V → List V → Hp → VK → Prop}
@[simp] def sLm (op : D → D → Option D) (f g : En → Out D) : En → Out D := fun e => (f e).bind fun x e1 => match x with
  | .lst ds => (g e1).bind fun y e2 => lift (op (.lst ds) y) e2
  | _ => .stuck
def HLm (K : PySem.W.Frag) (r : V → List V → Hp → VK → Prop) (op : D → D → Option D) : Prop := ∀ ds y d, op (.lst ds) y = some d → ∃ i : Int, d = .int i ∧ ∀ (H : Hp) (L L' : Addr → Prop) (a : Addr) (xs : List V) (v : V) (Q : VK), H a = some (.lst xs) → Reps H L ds xs → Rep H L' y v → Q (.int i) H → r (.ref a) [v] H Q
theorem ge_lm {name : Str} (hop : HLm X.K r op) (ho : GE X Γ W o ko fo) (he : GE X Γ W e k fe)
    (hPE : ∀ {ta : TE} {t : TA}, PE X o ta → PA X [e] t → PE X (.Call (.Attribute o name apos) [e] [] cpos) (tBM X.K "list" r ta t))
    (hs1 : starEach [e] X.env = (false, eval e X.env) :: starEach [] X.env := by rfl) : GE X Γ W (.Call (.Attribute o name apos) [e] [] cpos) .all (sLm op fo fe) := by
  refine ⟨PE.weak (hPE ho.pe (pa_cons he.pe pa_nil hs1)) ?_⟩
  rintro σ H Q ⟨B, F, env, ok, h⟩
  refine ⟨B, F, env, ok, oE.imp (oE.bind h) fun x e1 H1 F1 _ _ ⟨ok1, g1, h1⟩ u ru => ?_⟩
  cases x with
  | lst ds =>
    obtain ⟨a, xs, rfl, hA, rA⟩ := ru.lst
    refine ⟨.inl ⟨rfl, _, SqL.of hA⟩, B, F1, e1, ok1, oE.imp (oE.bind h1) fun y e2 H2 F2 _ _ ⟨ok2, g2, h2⟩ v rv => ?_⟩
    obtain ⟨a', xs', e3, hA', rA'⟩ := (g2.repK (k := ko) ru).lst
    cases e3
    cases q2 : op (.lst ds) y with
    | none => rw [q2] at h2; exact h2.elim
    | some d =>
      rw [q2] at h2
      obtain ⟨i, rfl, hr⟩ := hop ds y d q2
      exact hr H2 _ _ a xs' v Q hA' rA' rv.x (h2.here ok2 _ rfl)
  | _ => exact h1.elim
theorem hl_count : HLm X.K (rCountB X.K) oCount := fun ds y d q => by
  cases y with
  | bl b =>
    unfold oCount at q
    cases q1 : bls? ds with
    | none => simp only [q1] at q; cases q
    | some bs =>
      simp only [q1] at q
      cases q
      refine ⟨_, rfl, fun H L L' a xs v Q hA rA rv k => ?_⟩
      cases (show v = _ from rv)
      rw [bls?_eq q1] at rA
      have e := reps_bls rA
      subst e
      exact ⟨a, _, b, rfl, rfl, SqL.of hA, flat_bls bs, by rw [cntB_eq]; exact k⟩
  | _ => cases q
theorem hl_index : HLm X.K (rIndex X.K) oIndex := fun ds y d q => by
  cases y with
  | bl b =>
    unfold oIndex at q
    cases q1 : bls? ds with
    | none => simp only [q1] at q; cases q
    | some bs =>
      simp only [q1] at q
      cases q2 : fstB b bs with
      | none => simp only [Option.bind_some, q2] at q; cases q
      | some j =>
        simp only [Option.bind_some, q2] at q
        cases q
        refine ⟨_, rfl, fun H L L' a xs v Q hA rA rv k => ?_⟩
        cases (show v = _ from rv)
        rw [bls?_eq q1] at rA
        have e := reps_bls rA
        subst e
        obtain ⟨z1, z2⟩ := fstB_ok b q2
        exact ⟨a, _, .bl b, j, .bl b, rfl, rfl, SqL.of hA, rfl, flat_bls bs, z1, by cases b <;> rfl, z2, k⟩
  | _ => cases q
theorem ge_lcount (ho : GE X Γ W o ko fo) (he : GE X Γ W e k fe)
    (hPE : ∀ {ta : TE} {t : TA}, PE X o ta → PA X [e] t → PE X (.Call (.Attribute o "count" apos) [e] [] cpos) (tBM X.K "list" (rCountB X.K) ta t) := by exact fun h1 h2 => pe_bm PySem.F.plainAttrs_list PySem.F.slot_list_count PySem.F.type_list_count mt_countB h1 h2)
    (hs1 : starEach [e] X.env = (false, eval e X.env) :: starEach [] X.env := by rfl) : GE X Γ W (.Call (.Attribute o "count" apos) [e] [] cpos) .all (sLm oCount fo fe) := ge_lm hl_count ho he hPE hs1
theorem ge_lindex (ho : GE X Γ W o ko fo) (he : GE X Γ W e k fe)
    (hPE : ∀ {ta : TE} {t : TA}, PE X o ta → PA X [e] t → PE X (.Call (.Attribute o "index" apos) [e] [] cpos) (tBM X.K "list" (rIndex X.K) ta t) := by exact fun h1 h2 => pe_bm PySem.F.plainAttrs_list PySem.F.slot_list_index PySem.F.type_list_index mt_index h1 h2)
    (hs1 : starEach [e] X.env = (false, eval e X.env) :: starEach [] X.env := by rfl) : GE X Γ W (.Call (.Attribute o "index" apos) [e] [] cpos) .all (sLm oIndex fo fe) := ge_lm hl_index ho he hPE hs1
end
end Ev

set_option Elab.async false
set_option linter.all false
set_option maxRecDepth 100000
set_option maxHeartbeats 4000000
/-! Ev17: the own errors; which of them it was; try. -/
namespace Ev
open PySem L2 L2H PyProof.Rows

/-! ### what the classes must say -/
def exOne (K : PySem.W.Frag) (D : Addr) : Bool :=
  (PySem.W.findIn K (.ref D) "__getattribute__" == some (some (.builtin "BaseException.__getattribute__")) && PySem.W.findIn K (.ref D) "__getattr__" == some none && PySem.W.subIn K (.ref D) (.type "BaseException") == some true)
  && (PySem.W.hasDictIn K D && PySem.W.findIn K (.ref D) "__class__" == some (some (.builtin "object.__class__")) && PySem.W.mroIn K D (.type "object") == some true)
  && PySem.W.kitOne K (.ref D) (.type "ValueError") == some true
def exAll (K : PySem.W.Frag) (Cs : List Addr) (Cp : Addr) : Bool :=
  (PySem.W.specialIn K (.builtin "object.__class__") "__get__" == some (some (.builtin "getset_descriptor.__get__")) && PySem.W.takesIn K (.builtin "object.__class__") == some true)
  && (List.range 9).all fun i => exOne K (Cs.getD i 0) && PySem.W.exmOne K (.ref (Cs.getD i 0)) (.ref Cp) == some true && (List.range 9).all fun j => PySem.W.kitOne K (.ref (Cs.getD i 0)) (.ref (Cs.getD j 0)) == some (decide (i = j))
structure ExAll (K : PySem.W.Frag) (exc : Nat → Addr) (Cp : Addr) : Prop where
  one : ∀ c, c < 9 → ExcC K (exc c)
  ve : ∀ c, c < 9 → PySem.W.kitOne K (.ref (exc c)) (.type "ValueError") = some true
  pe : ∀ c, c < 9 → PySem.W.exmOne K (.ref (exc c)) (.ref Cp) = some true
  is : ∀ c, c < 9 → ∀ d, d < 9 → PySem.W.kitOne K (.ref (exc c)) (.ref (exc d)) = some (decide (c = d))
theorem exAll_of {K : PySem.W.Frag} {Cs : List Addr} {Cp : Addr} (h : exAll K Cs Cp = true) : ExAll K (fun n => Cs.getD n 0) Cp := by
  unfold exAll at h
  rw [Bool.and_eq_true, Bool.and_eq_true, List.all_eq_true] at h
  obtain ⟨⟨h1, h2⟩, h3⟩ := h
  have hh : ∀ c, c < 9 → exOne K (Cs.getD c 0) = true ∧ PySem.W.exmOne K (.ref (Cs.getD c 0)) (.ref Cp) = some true ∧ ∀ d, d < 9 → PySem.W.kitOne K (.ref (Cs.getD c 0)) (.ref (Cs.getD d 0)) = some (decide (c = d)) := fun c hc => by
    have z := h3 c (List.mem_range.mpr hc)
    rw [Bool.and_eq_true, Bool.and_eq_true, List.all_eq_true] at z
    exact ⟨z.1.1, beq_iff_eq.mp z.1.2, fun d hd => beq_iff_eq.mp (z.2 d (List.mem_range.mpr hd))⟩
  have h1 := beq_iff_eq.mp h1
  have h2 := beq_iff_eq.mp h2
  refine ⟨fun c hc => ?_, fun c hc => ?_, fun c hc => (hh c hc).2.1, fun c hc => (hh c hc).2.2⟩
  · have z := (hh c hc).1
    unfold exOne at z
    simp only [Bool.and_eq_true, beq_iff_eq] at z
    obtain ⟨⟨⟨⟨z1, z2⟩, z3⟩, ⟨z4, z5⟩, z6⟩, z7⟩ := z
    exact ⟨z1, z2, z3, z4, z5, h1, h2, z6⟩
  · have z := (hh c hc).1
    unfold exOne at z
    rw [Bool.and_eq_true] at z
    exact beq_iff_eq.mp z.2

/-! ### isinstance of the error that is handled -/
theorem call_isP {X : Cx} {p : Addr × Obj} {D : Addr} (C : ExcC X.K D) (hz : Zc (.ref D) none p.2) (hf : ∃ vs, p.2.data = .fields vs) (hp : p ∈ X.pn) : CallR X (.builtin "isinstance") (rIsE X.K D p.1) := by
  rintro pins s σ H xs us Q I r ⟨c, cv, b, rfl, hcv, e, q⟩
  obtain ⟨a, oe⟩ := p
  obtain ⟨vs, hv⟩ := hf
  obtain ⟨kl, od, dat, sls⟩ := oe
  obtain ⟨z1, z2⟩ := hz
  dsimp only at z1 z2 hv
  subst z1 z2 hv
  cases r with
  | cons r1 rr => cases rr with
    | cons r2 rr =>
      cases rr
      cases r1
      cases hcv _ r2
      have J : PySem.W.InstAt s.heap a ⟨.ref D, none, .fields vs, sls⟩ D none := ⟨(I.pin (a, _) (List.mem_append_left _ hp)).1, rfl, rfl, trivial⟩
      exact PySem.W.kia_one (PySem.W.handS_kitx_exc C.hg C.hk C.hs C.hd C.ha C.hn C.ht C.hm) I.kIn J e (fun z => by cases z) fun tk => ⟨V.bl b, H, I.kept (fun _ _ z => z), rfl, q⟩
def isRaw (d : Option (Option D)) (a : Addr) : Prop := d = some (some (.raw (.ref a)))
open Classical in
noncomputable def sIsX (i : Nat) (a : Addr) (b : Bool) : En → Out D := fun e => if isRaw e[i]? a then .ok (.bl b) e else .stuck
section
variable {X : Cx} {Γ : Cy} {W : WX} {p0 p1 p2 pos : Pos} {en cn : Str}
theorem ge_isXg {p : Addr × Obj} {D : Addr} {c : V} {cv : Value} {b : Bool} (i : Nat) (C : ExcC X.K D) (hz : Zc (.ref D) none p.2) (hf : ∃ vs, p.2.data = .fields vs) (hp : p ∈ X.pn) (hm : X.mg "isinstance" = none) (hx : i ∉ Γ.X) (hxm : i ∉ Γ.M) (hN : X.N[i]? = some en) (hv : Vis X.env.scope en)
    (hc : ∀ {ta : TA}, PA X [] ta → PA X [.Name cn p2] (tCons (tC c) ta)) (hcv : ∀ u, RelV c u → u = cv) (hk : PySem.W.kitOne X.K (.ref D) cv = some b) (hg : Gl X "isinstance" := by rfl) (hd : (en == ("__debug__" : Str)) = false := by decide) (hcd : (en == ("__classdict__" : Str)) = false := by decide)
    (hs : starEach [.Name en p1, .Name cn p2] X.env = (false, eval (.Name en p1) X.env) :: starEach [.Name cn p2] X.env := by rfl) (hpl : (backTo pos (starEach [.Name cn p2] X.env)).any (·.1) = false := by rfl) :
    GE X Γ W (.Call (.Name "isinstance" p0) [.Name en p1, .Name cn p2] [] pos) .all (sIsX i p.1 b) := by
  refine ⟨PE.weak (pe_callB (call_isP C hz hf hp) hg hm (by decide +kernel) (pa_cons (pe_var hN hv hd hcd) (hc pa_nil) hs) (he := hs) (hpl := hpl)) ?_⟩
  rintro σ H Q ⟨B, F, env, ok, h⟩
  unfold sIsX at h
  split at h
  · rename_i e
    obtain ⟨v, e1, s⟩ := ok.slot i _ e
    unfold SlotOk at s
    rw [if_neg hx, if_neg hxm] at s
    cases (show v = _ from s)
    exact ⟨_, e1, ⟨c, cv, b, rfl, hcv, hk, h.here ok _ rfl⟩⟩
  · exact h.elim
theorem ge_isX {exc : Nat → Addr} {Cp : Addr} {p : Addr × Obj} {c : Nat} (i d : Nat) (T : ExAll X.K exc Cp) (hc : c < 9) (hz : Zc (.ref (exc c)) none p.2) (hf : ∃ vs, p.2.data = .fields vs) (hp : p ∈ X.pn) (hm : X.mg "isinstance" = none) (hcn : X.mg cn = some (.ref (exc d))) (hd9 : d < 9 := by decide) (hx : i ∉ Γ.X := by (try dsimp only); decide) (hxm : i ∉ Γ.M := by (try dsimp only); decide) (hN : X.N[i]? = some en := by rfl)
    (hv : Vis X.env.scope en := by first | exact Or.inl rfl | exact Or.inr (Or.inl rfl) | exact Or.inr (Or.inr rfl)) (hg : Gl X "isinstance" := by rfl) (hg2 : Gl X cn := by rfl) (hd2 : (cn == ("__debug__" : Str)) = false := by decide) (hd : (en == ("__debug__" : Str)) = false := by decide) (hcd : (en == ("__classdict__" : Str)) = false := by decide)
    (hs : starEach [.Name en p1, .Name cn p2] X.env = (false, eval (.Name en p1) X.env) :: starEach [.Name cn p2] X.env := by rfl) (hs2 : starEach [.Name cn p2] X.env = (false, eval (.Name cn p2) X.env) :: starEach [] X.env := by rfl) (hpl : (backTo pos (starEach [.Name cn p2] X.env)).any (·.1) = false := by rfl) :
    GE X Γ W (.Call (.Name "isinstance" p0) [.Name en p1, .Name cn p2] [] pos) .all (sIsX i p.1 (decide (c = d))) :=
  ge_isXg i (c := .ref (exc d)) (T.one c hc) hz hf hp hm hx hxm hN hv (fun ha => pa_cons (pe_glob hg2 hcn rfl hd2) ha hs2) (fun _ r => r) (T.is c hc d hd9) hg hd hcd hs hpl
theorem ge_isXV {exc : Nat → Addr} {Cp : Addr} {p : Addr × Obj} {c : Nat} (i : Nat) (T : ExAll X.K exc Cp) (hc : c < 9) (hz : Zc (.ref (exc c)) none p.2) (hf : ∃ vs, p.2.data = .fields vs) (hp : p ∈ X.pn) (hm : X.mg "isinstance" = none) (hm2 : X.mg "ValueError" = none) (hx : i ∉ Γ.X := by (try dsimp only); decide) (hxm : i ∉ Γ.M := by (try dsimp only); decide) (hN : X.N[i]? = some en := by rfl)
    (hv : Vis X.env.scope en := by first | exact Or.inl rfl | exact Or.inr (Or.inl rfl) | exact Or.inr (Or.inr rfl)) (hg : Gl X "isinstance" := by rfl) (hg2 : Gl X "ValueError" := by rfl) (hd : (en == ("__debug__" : Str)) = false := by decide) (hcd : (en == ("__classdict__" : Str)) = false := by decide)
    (hs : starEach [.Name en p1, .Name "ValueError" p2] X.env = (false, eval (.Name en p1) X.env) :: starEach [.Name "ValueError" p2] X.env := by rfl) (hs2 : starEach [.Name "ValueError" p2] X.env = (false, eval (.Name "ValueError" p2) X.env) :: starEach [] X.env := by rfl) (hpl : (backTo pos (starEach [.Name "ValueError" p2] X.env)).any (·.1) = false := by rfl) :
    GE X Γ W (.Call (.Name "isinstance" p0) [.Name en p1, .Name "ValueError" p2] [] pos) .all (sIsX i p.1 true) :=
  ge_isXg i (c := .ty "ValueError") (T.one c hc) hz hf hp hm hx hxm hN hv (fun ha => pa_cons (pe_bltn (v := .ty "ValueError") hg2 hm2 (by decide +kernel) rfl) ha hs2) (fun _ r => r) (T.ve c hc) hg hd hcd hs hpl
end

theorem cx_endG {P : Program} {w : World} {o : List PySem.Env} {H : Hp} {s : Shared} {e : Value} {s' : Shared} (h : L2.CX P w o H s (fun _ _ _ => False) e s') : False := by
  obtain ⟨_, _, _, _, _, _, _, _, _, _, _, _, h⟩ := h
  exact h

/-! ### _law_which -/
theorem _root_.L2H.RoomH.units {k : Nat} {A : Around} (r : RoomH k A) : A.units + 64 < cLine := by have := r.un; omega
noncomputable def f_which (a : Addr) (c : Nat) : En → Out Fl :=
  sSeq2 (sSetM 1 (sLim (sCons (sIsX 0 a (decide (c = 0))) (sCons (sIsX 0 a (decide (c = 1))) (sCons (sIsX 0 a (decide (c = 2))) sNil)))))
  (sSeq2 (sExt 1 (sLst (sCons (sIsX 0 a (decide (c = 3))) (sCons (sIsX 0 a (decide (c = 4))) (sCons (sIsX 0 a (decide (c = 5))) sNil)))))
  (sSeq2 (sExt 1 (sLst (sCons (sIsX 0 a (decide (c = 6))) (sCons (sIsX 0 a (decide (c = 7))) (sCons (sIsX 0 a (decide (c = 8))) sNil)))))
  (sSeq2 (sIfS (sOrT (sB (s2 oNe (sLm oCount (sVar 1) (sC (.bl true))) (sC (.int 1)))) (sNotT (sB (sIsX 0 a true)))) (sRet .all (sTup (sCons (sC (.str "raised")) (sCons (s1 oNeg (sC (.int 1))) sNil)))) sNx)
  (sRet .all (sTup (sCons (sC (.str "raised")) (sCons (sLm oIndex (sVar 1) (sC (.bl true))) sNil)))))))
theorem f_which_eq (a : Addr) (c : Nat) (hc : c < 9) : ∃ e, f_which a c [some (.raw (.ref a)), none] = .ok (.ret (.tup [.str "raised", .int c])) e := by
  have hi : ∀ b (o : Option D), sIsX 0 a b [some (.raw (.ref a)), o] = .ok (.bl b) [some (.raw (.ref a)), o] := fun b o => by
    unfold sIsX
    exact if_pos (by unfold isRaw; rfl)
  have hn : oNe (.int 1) (.int 1) = some (.bl false) := by simp [oNe, deq, shp, py, PyData.eqv]
  have h9 : c = 0 ∨ c = 1 ∨ c = 2 ∨ c = 3 ∨ c = 4 ∨ c = 5 ∨ c = 6 ∨ c = 7 ∨ c = 8 := by omega
  rcases h9 with rfl | rfl | rfl | rfl | rfl | rfl | rfl | rfl | rfl <;> exact ⟨_, by simp [f_which, hi, oCount, oIndex, bls?, cntB, fstB, hn, lim]; rfl⟩
structure FnW (P : Program) (w : World) (K : PySem.W.Frag) (mg : Str → Option Value) (base : Heap) (exc : Nat → Addr) : Prop where
  ex : ∃ fa fd, mg "_law_which" = some (.ref fa) ∧ PySem.W.keepIn K (.ref fa) = true ∧ Binds K fd ["_law_e"] [] ∧
    ∀ (A : Around) (outer : List PySem.Env) (s : Shared) (H : Hp) (us : List Value) (Q : VK) (E : XK) (p : Addr × Obj) (c : Nat), RoomH 1 A → PinOk outer H s p → Env0 P w K mg base A outer s H → BindsTo s fd ⟨us, []⟩ ((["_law_e"] : List Str).zip us) → Vals [V.ref p.1] us →
      c < 9 → Zc (.ref (exc c)) none p.2 → (∃ vs, p.2.data = .fields vs) → (∀ v H', (∀ b o, H b = some o → H' b = some o) → Rep H' (fun b => H b = none) (.tup [.str "raised", .int c]) v → Q v H') →
      codeAny (model P w) A (.call (.ref fa) ⟨us, []⟩) (CR (L2.CX P w) outer P w H s Q E) s
section
variable {P : Program} {w : World} {K : PySem.W.Frag} {mg : Str → Option Value} {base : Heap} {C : Addr} {exc : Nat → Addr}
theorem fnW_def {st : Stmt} {fa : Addr} {fd : FuncData} (Fn : Fun K "_law_which" "_law_which" st fa fd) (S : FnScope ["_law_e", "_law_own"] ["_law_e"] (defScope st)) (hmg : mg "_law_which" = some (.ref fa)) (hb : Binds K fd ["_law_e"] [])
    (hbody : ∀ (cdv : Value) (A : Around) (outer : List PySem.Env) (s : Shared) (H : Hp) (E : XK) (p : Addr × Obj) (c : Nat), c < 9 → Zc (.ref (exc c)) none p.2 → (∃ vs, p.2.data = .fields vs) → RoomH 0 (A.deeper (envOfC "_law_which" (defScope st) s.heap.objs.size fa cdv)) →
      GSs (cxH (L2.CX P w) P w K mg base ["_law_e", "_law_own"] "_law_which" (defScope st) fa cdv A outer s H E p) ⟨[1], [], exc, 0, []⟩ (fun _ _ _ _ => False) (defBody st) (f_which p.1 c)) : FnW P w K mg base exc := by
  have hkp := Fn.kp
  obtain ⟨oc, od, kV, doc, pm, an, cdv, ct, osl, hfd, lk, hcd⟩ := Fn.ex
  subst hfd
  refine ⟨fa, _, hmg, hkp, hb, fun A outer s H us Q E p c hr hpin e0 hbt r hc hz hf hQ => ?_⟩
  have kx : K.In s.heap := e0.mod.kin.keeps fun b o q => (e0.bs b o q).1
  have nl : s.heap.NoLimit := e0.mod.nolimit.keeps fun b o q => (e0.bs b o q).1
  have hkd : ∀ y ∈ (["_law_e"] : List Str).zip us, (defScope st).names.lookup y.1 = some .local ∨ ((defScope st).names.lookup y.1 = some .cell ∧ ((cellsFrom (s.heap.objs.size + 1) (defScope st).names []).lookup y.1).isSome = true) := fun ⟨n, v⟩ hy =>
    (S.par n (List.of_mem_zip hy).1).imp id fun q => ⟨q, PySem.W.cellsFrom_some _ _ _ (.inl q)⟩
  refine codeAny_call_function hr.depth (kx _ _ lk) rfl S.co S.gen rfl (PySem.W.codeRec_of kx hcd) (hbt _ _ _ _ ?_)
  refine wpAny_newFunctionEnv_cells S.kind hkd fun env he s1 x => ?_
  subst he
  refine ⟨nl.keeps x.toInCall.keep, codeAny_func ?_⟩
  have G := hbody cdv A outer s H E p c hc hz hf (hr.deeper _)
  have I : Inv (cxH (L2.CX P w) P w K mg base ["_law_e", "_law_own"] "_law_which" (defScope st) fa cdv A outer s H E p) [] (L2.start ["_law_e", "_law_own"] [V.ref p.1]) H s1 := inv_startH S hpin e0 rfl r x
  have ok0 : StOk ⟨[1], [], exc, 0, []⟩ ⟨H, fun _ => False, [], H⟩ (fun _ => []) (L2.start ["_law_e", "_law_own"] [V.ref p.1]) H [some (.raw (.ref p.1)), none] := by
    refine ⟨rfl, fun _ h => h, fun _ _ h _ => h, fun i d e => ?_, fun _ _ _ _ h => (by cases h), fun _ _ h => (by cases h), fun _ _ h => (by cases h), fun _ h => (by cases h), fun _ h => (by cases h), fun _ h => h, fun _ _ _ h => (by cases h), fun _ h => (by cases h), fun _ h => (by cases h)⟩
    match i, e with
    | 0, e =>
      cases e
      exact ⟨.ref p.1, rfl, by unfold SlotOk; rw [if_neg (by simp), if_neg (by simp)]; exact rfl⟩
    | 1, e => cases e
    | n + 2, e => cases e
  obtain ⟨e', he'⟩ := f_which_eq p.1 c hc
  refine wpAny_mono (G.ps.run [] s1 _ H { nx := fun _ H' => Q .non H', rt := Q } I ⟨_, _, _, ok0, ?_⟩) (fun fl s' hs => ?_) fun e s' hs => hs
  · rw [he']
    intro v σ H' F' ok' rv
    exact hQ v H' (fun b o q => ok'.keep b o q fun _ z => z) (rv.imp (fun _ _ q => q) fun _ _ q l => ⟨q, l.1⟩)
  · cases fl with
    | ret u =>
      obtain ⟨v, σ', H', J, rv, q⟩ := hs
      exact ⟨v, H', J.os, J.bare, J.base, J.hok, rv, q⟩
    | next =>
      obtain ⟨σ', H', J, q⟩ := hs
      exact ⟨V.non, H', J.os, J.bare, J.base, J.hok, rfl, q⟩
    | brk => exact hs.elim fun _ z => z.elim fun _ z => z.2.elim
    | cont => exact hs.elim fun _ z => z.elim fun _ z => z.2.elim
end

/-! ### try: .. except PartError as e: return _law_which(e) -/
@[simp] def sTry (i : Nat) (f : En → Out Fl) : En → Out Fl := fun e => match f e with
  | .raise c e1 => if c < 9 ∧ i < e1.length then .ok (.ret (.tup [.str "raised", .int c])) e1 else .stuck
  | o => o
section
variable {X : Cx} {Γ : Cy} {W : WX} {en : Str} {f : En → Out Fl} {body : List Stmt} {q0 q1 q2 q3 q4 q5 pos : Pos} {Cp : Addr} {k : Nat}
theorem pe_which {Y : Cx} {a : Addr} {oe : Obj} {pn : List (Addr × Obj)} {i c : Nat} {exc : Nat → Addr} (D : FnW Y.prog Y.w Y.K Y.mg Y.base exc) (hr : Room k Y.A) (h1 : 1 ≤ k) (hN : Y.N[i]? = some en) (hv : Vis Y.env.scope en) (hg : Gl Y "_law_which") (hd : (en == ("__debug__" : Str)) = false) (hcd : (en == ("__classdict__" : Str)) = false)
    (hst : Y.stack = Y.env :: Y.outer)
    (hc : c < 9) (hz : Zc (.ref (exc c)) none oe) (hf : ∃ vs, oe.data = .fields vs) (he : starEach [.Name en q0] Y.env = (false, eval (.Name en q0) Y.env) :: starEach [] Y.env := by rfl) (hpl : (backTo q2 (starEach [] Y.env)).any (·.1) = false := by rfl) :
    PE (Y.suite a ((a, oe) :: pn)) (.Call (.Name "_law_which" q1) [.Name en q0] [] q2) (fun σ H Q => σ[i]? = some (some (.ref a)) ∧ ∀ v H', (∀ b o, H b = some o → H' b = some o) → Rep H' (fun b => H b = none) (.tup [.str "raised", .int c]) v → Q v H') := by
  refine ⟨fun pins s σ H Q I ⟨h, hQ⟩ => ?_⟩
  obtain ⟨fa, fd, hm, hk, hb, run⟩ := D.ex
  refine wpAny_Call_Name_kw (ld_glob I hg hm ?_ (by decide))
  refine PySem.W.callWith_K (h₀ := Y.base) I.ok.mod.kin hk (thn ((pa_cons (pe_var (X := Y.suite a ((a, oe) :: pn)) hN hv hd hcd) pa_nil he).run q2 pins s σ H (fun vs H1 => vs = [V.ref a] ∧ H1 = H) I ⟨_, h, rfl, rfl⟩) fun us s1 ⟨vs, H1, I1, r, e1, e2⟩ => ⟨I1.kIn, ?_⟩) he hpl
  subst e1 e2
  have hl : us.length = 1 := r.length.symm
  have b := hb s1 us I1.kIn (by rw [List.append_nil]; exact hl)
  rw [List.append_nil] at b
  have P1 := I1.pin (a, oe) (List.mem_append_left _ List.mem_cons_self)
  have hrm : RoomH 1 (Y.A.mark (some (.ref a))) := RoomH.mono ⟨hr.dp, hr.un⟩ h1
  have hpin : PinOk (Y.suite a ((a, oe) :: pn)).stack H1 s1 (a, oe) := ⟨P1.1, P1.2.1, fun hmm => (List.mem_cons.mp (I1.stkSub a hmm)).elim P1.2.2.1 P1.2.2.2.1, P1.2.2.2.2⟩
  refine wpAny_call (codeAny_mono (run (Y.A.mark (some (.ref a))) Y.stack s1 H1 us Q (fun _ _ _ => False) (a, oe) c hrm hpin I1.env0 b r hc hz hf hQ) fun res s' hq => ?_)
  cases res with
  | error e => exact (cx_endG hq).elim
  | ok fl =>
    cases fl with
    | ret u => exact I1.after hq
    | next => exact False.elim hq
    | brk => exact False.elim hq
    | cont => exact False.elim hq
theorem gs_try {exc : Nat → Addr} (i : Nat) (D : FnW X.prog X.w X.K X.mg X.base exc) (T : ExAll X.K exc Cp) (hexc : Γ.exc = exc) (hmp : X.mg "PartError" = some (.ref Cp)) (hr : Room k X.A) (h1 : 1 ≤ k) (tk : Takes X W)
    (hs : X.stack = X.env :: X.outer) (hfr : X.env.frame = some X.env.locals) (hnd : X.N.Nodup)
    (hb : ∀ (W' : WX) (pn : List (Addr × Obj)) (xe : Value → Shared → Prop), Takes (X.tr pn xe) W' → GSs (X.tr pn xe) Γ W' body f)
    (hN : X.N[i]? = some en := by rfl) (hln : X.env.kindOf en = some .local := by rfl) (hg : Gl X "PartError" := by rfl) (hg2 : Gl X "_law_which" := by rfl) (hv : Vis X.env.scope en := by exact Or.inl rfl) (hd : (en == ("__debug__" : Str)) = false := by decide) (hcd : (en == ("__classdict__" : Str)) = false := by decide)
    (he : starEach [.Name en q0] X.env = (false, eval (.Name en q0) X.env) :: starEach [] X.env := by rfl) (hpl : (backTo q2 (starEach [] X.env)).any (·.1) = false := by rfl) :
    GS X Γ W (.Try body [.ExceptHandler (some (.Name "PartError" q4)) (some en) [.Return (some (.Call (.Name "_law_which" q1) [.Name en q0] [] q2)) q3] q5] [] [] pos) (sTry i f) := by
  subst hexc
  refine ⟨PS.weak (L2.ps_try_as (ts := fun a cls d D σ H => ∃ c, c < 9 ∧ cls = .ref (Γ.exc c) ∧ d = none ∧ σ[i]? = some (some (.ref a)) ∧ ∀ v H', (∀ b o, H b = some o → H' b = some o) → Rep H' (fun b => H b = none) (.tup [.str "raised", .int c]) v → D.rt v H')
    hs hfr hnd hN hln ⟨hg, by decide, .inl hmp⟩ tk (fun W' pn xe t _ => (hb W' pn xe t).ps) (fun a oe cls d pn hz hf => ?_)) ?_⟩
  · refine ⟨fun pins s σ H D' I ⟨c, hc, e1, e2, e3, hQ⟩ => ?_⟩
    subst e1 e2
    exact (pss_one (ps_ret (pe_which D hr h1 hN hv hg2 hd hcd hs hc hz hf he hpl))).run pins s σ H D' I ⟨e3, hQ⟩
  · rintro D' σ H ⟨B, F, env, ok, h⟩
    refine ⟨B, F, env, ok, ?_⟩
    unfold sTry at h
    cases q : f env with
    | stuck => rw [q] at h; exact h.elim
    | ok fl e1 => rw [q] at h; cases fl <;> exact h
    | raise c e1 =>
      rw [q] at h
      simp only at h
      split at h
      · rename_i hc
        obtain ⟨hc, hi⟩ := hc
        intro σ1 H1 F1 ok1
        rw [← ok1.len] at hi
        refine ⟨true, T.pe c hc, fun _ a ha => ⟨c, hc, rfl, rfl, List.getElem?_set_self hi, fun v H' kp rv => ?_⟩, fun z => by cases z⟩
        refine h v σ1 H' F1 (ok1.kept kp) (rv.imp (fun _ _ q => q) fun b _ q l => ⟨q, ?_, fun j _ hj => ?_⟩)
        · cases z : B.E b with
          | none => rfl
          | some o => exact absurd l (ok1.entD b (by rw [z]; simp))
        · obtain ⟨o, z, _⟩ := ok1.trk j b hj
          rw [l] at z; cases z
      · exact h.elim
end
end Ev

set_option Elab.async false
set_option linter.all false
set_option maxRecDepth 100000
set_option maxHeartbeats 4000000
/-! Ev18: a call of one of a few defs, by its place in a written list. -/
namespace Ev
open PySem L2 PyProof.Rows
section
variable {X : Cx} {Γ : Cy} {W : WX} {p p1 p2 pos : Pos} {e ix : Expr} {es fs : List Expr} {kk n : Nat} {Φ : List D → COut} {Φs : List (List D → COut)} {x : Str} {ki : Fk} {fi : En → Out D} {sl : List (Option Nat)} {g : En → Out (List D)}
def raws (fas : List Addr) : List D := fas.map fun a => D.raw (.ref a)
structure GF (X : Cx) (Γ : Cy) (W : WX) (kk n : Nat) (fs : List Expr) (Φs : List (List D → COut)) : Prop where
  ex : ∃ (fas : List Addr) (al : Bool), fas.length = Φs.length ∧ GA X Γ W fs al (fun e => .ok (raws fas) e) ∧
    ∀ (j : Nat) (a : Addr) (Φ : List D → COut), fas[j]? = some a → Φs[j]? = some Φ → ∃ fd ps, FnOk X.prog X.w X.K X.mg X.base (L2.CX X.prog X.w) kk a fd ps (spD Γ.C Γ.exc n [] Φ) ∧ PySem.W.keepIn X.K (.ref a) = true ∧ Binds X.K fd ps []
theorem gf_nil : GF X Γ W kk n [] [] := ⟨[], true, rfl, ga_nil, fun _ _ _ h => by simp at h⟩
theorem gf_cons {k1 : Nat} (Dd : FnD X.prog X.w X.K X.mg X.base Γ.C Γ.exc x k1 n [] Φ) (h : GF X Γ W kk n fs Φs) (hk : k1 ≤ kk := by decide) (hg : Gl X x := by rfl) (hdb : (x == ("__debug__" : Str)) = false := by decide)
    (hs : starEach (.Name x p :: fs) X.env = (false, eval (.Name x p) X.env) :: starEach fs X.env := by rfl) : GF X Γ W kk n (.Name x p :: fs) (Φ :: Φs) := by
  obtain ⟨fa, fd, ps, Fn, hm, hkp, hb⟩ := Dd.ex
  obtain ⟨fas, al, hl, ga, hf⟩ := h.ex
  refine ⟨fa :: fas, _, by rw [List.length_cons, List.length_cons, hl], ga_cons (ge_glob (.raw (.ref fa)) hm (show RelV (.ref fa) (.ref fa) from rfl) (fun _ _ => rfl) hg hdb) ga hs, fun j a Ψ h1 h2 => ?_⟩
  cases j with
  | zero =>
    cases h1; cases h2
    exact ⟨fd, ps, Fn.mono hk, hkp, hb⟩
  | succ j => exact hf j a Ψ h1 h2
@[simp] def sPick (Φs : List (List D → COut)) (sl : List (Option Nat)) (fi : En → Out D) (g : En → Out (List D)) : En → Out D := fun e => (fi e).bind fun d e1 => match d with
  | .int i => match atI Φs i with
    | some Φ => sCallF Φ sl g e1
    | none => .stuck
  | _ => .stuck
theorem ge_pick (hF : GF X Γ W kk n fs Φs) (hi : GE X Γ W ix ki fi) (hr : Room kk X.A) (tk : Takes X W) (ha : GC X Γ W (e :: es) sl g) (hle : Φs.length ≤ 1000 := by decide) (hxm : [] = xmS sl := by rfl) (hn : n = sl.length := by rfl) (hnd : ndS sl = true := by rfl) (hsx : PlainIx ix := by intro _ _; rfl)
    (ht : eval (.Call (.Subscript (.List fs p1) ix p2) (e :: es) [] pos) X.env = (do callWith pos (← eval (.Subscript (.List fs p1) ix p2) X.env) [] (backTo pos (starEach (e :: es) X.env)) (backToKw pos (keywordEach [] X.env))) := by rfl)
    (he : starEach (e :: es) X.env = (false, eval e X.env) :: starEach es X.env := by rfl) (hpl : (backTo pos (starEach es X.env)).any (·.1) = false := by rfl) :
    GE X Γ W (.Call (.Subscript (.List fs p1) ix p2) (e :: es) [] pos) .all (sPick Φs sl fi g) := by
  obtain ⟨fas, al, hl, ga, hf⟩ := hF.ex
  have gx := ge_ix (pos := p2) (ge_lst (pos := p1) ga) hi hsx
  refine ⟨⟨fun pins s σ H Q I ⟨B, F, env, ok, h⟩ => ?_⟩⟩
  have h2 := oE.bind (show oE Γ W B F σ H ((fi env).bind _) _ from h)
  refine Call_ (thn (gx.pe.run pins s σ H (fun v H1 => ∃ (F1 : Fp) (e1 : En) (Φ : List D → COut) (fa : Addr), v = .ref fa ∧ StOk Γ B F1 σ H1 e1 ∧ Go Γ F H F1 H1 ∧ oE Γ W B F1 σ H1 (sCallF Φ sl g e1) (fun d _ H' F' => ∀ v, RepK Γ .all H F' H' d v → Q v H') ∧
    ∃ fd ps, FnOk X.prog X.w X.K X.mg X.base (L2.CX X.prog X.w) kk fa fd ps (spD Γ.C Γ.exc n [] Φ) ∧ PySem.W.keepIn X.K (.ref fa) = true ∧ Binds X.K fd ps []) I ⟨B, F, env, ok, ?_⟩) fun u s1 ⟨v, H1, I1, r1, q1⟩ => ?_) ht
  · have hlr : (raws fas).length ≤ 1000 := by unfold raws; rw [List.length_map, hl]; exact hle
    show oE Γ W B F σ H ((sLst (fun e => .ok (raws fas) e) env).bind fun x e1 => (fi e1).bind fun y e2 => lift (dIx x y) e2) _
    have e0 : sLst (fun e => .ok (raws fas) e) env = .ok (.lst (raws fas)) env := by
      show (if (raws fas).length ≤ 1000 then _ else _) = _
      rw [if_pos hlr]
    rw [e0]
    show oE Γ W B F σ H ((fi env).bind fun y e2 => lift (dIx (.lst (raws fas)) y) e2) _
    cases q : fi env with
    | stuck => rw [q] at h2; exact h2.elim
    | raise c e1 => rw [q] at h2; exact h2
    | ok d e1 =>
      rw [q] at h2
      have h3 : ∀ H1 F1, StOk Γ B F1 σ H1 e1 → Go Γ F H F1 H1 → StOk Γ B F1 σ H1 e1 ∧ Go Γ F H F1 H1 ∧ oE Γ W B F1 σ H1 (match d with
        | .int i => (match atI Φs i with
          | some Φ => sCallF Φ sl g e1
          | none => .stuck)
        | _ => .stuck) fun d _ H' F' => ∀ v, RepK Γ .all H F' H' d v → Q v H' := h2
      cases d with
      | int i =>
        cases q2 : atI Φs i with
        | none =>
          unfold sPick at h
          rw [q, bind_ok] at h
          simp only [q2] at h
          exact h.elim
        | some Φ =>
          simp only [q2] at h3
          have z : ∃ j, ixN Φs.length i = some j ∧ Φs[j]? = some Φ := by
            unfold atI at q2
            cases q4 : ixN Φs.length i with
            | none => rw [q4] at q2; cases q2
            | some j => rw [q4] at q2; exact ⟨j, rfl, q2⟩
          obtain ⟨j, z1, z2⟩ := z
          have hj : j < fas.length := by rw [hl]; exact (List.getElem?_eq_some_iff.mp z2).1
          have z3 : fas[j]? = some fas[j] := List.getElem?_eq_getElem hj
          have z4 : atI (raws fas) i = some (.raw (.ref fas[j])) := by
            unfold atI
            rw [show (raws fas).length = Φs.length by unfold raws; rw [List.length_map, hl], z1]
            show (raws fas)[j]? = _
            unfold raws
            rw [List.getElem?_map, z3]; rfl
          show oE Γ W B F σ H (lift (atI (raws fas) i) e1) _
          rw [z4]
          intro H1 F1 ok1 g1 v rv
          have ev : v = .ref fas[j] := by
            have := RepK.x rv
            exact this
          obtain ⟨_, _, h4⟩ := h3 H1 F1 ok1 g1
          exact ⟨F1, e1, Φ, fas[j], ev, ok1, g1, h4, hf j _ Φ z3 z2⟩
      | _ =>
        unfold sPick at h
        rw [q, bind_ok] at h
        exact h.elim
  · obtain ⟨F1, e1, Φ, fa, rfl, ok1, g1, h4, fd, ps, Fn, hkp, hb⟩ := q1
    obtain rfl : u = Value.ref fa := r1
    refine PySem.W.callWith_K (h₀ := X.base) I1.ok.mod.kin hkp (thn (ha.pa.run pos pins s1 σ H1 (fun vs H2 => spD Γ.C Γ.exc n [] Φ vs H2 Q (WE W σ)) I1 ⟨B, F1, e1, ok1, oE.imp (oE.bind h4) fun ds e2 H2 F2 _ _ ⟨ok2, g2, q2⟩ vs rv => ?_⟩) fun us s2 ⟨vs, H2, I2, r, q⟩ => ⟨I2.kIn, ?_⟩) he hpl
    rotate_left
    · exact run_fnS (E := fun σ => WE W σ) Fn hr hb (passAt tk σ) I2 r q
    · split at q2
      · rename_i hx
        rw [hxm]
        refine call_step (W := W) hnd hn ok2 rv (oE.imp q2 fun d e3 H3 F3 _ _ q v r => q v ?_) fun i _ hi => hasX_def hx i hi
        exact RepK.early (k := .all) (g1.trans g2) r
      · exact q2.elim
end
end Ev

set_option Elab.async false
set_option linter.all false
set_option maxRecDepth 100000
set_option maxHeartbeats 4000000
/-! Ev19: xs[::-1]. -/
namespace Ev
open PySem L2 PyProof.Rows PySem.Calls
section
variable {prog : Program} {w : World} {A : Around} {E : Value → Shared → Prop} {s : Shared}
theorem adj_back (n : Nat) : Builtin.Slice.sliceAdjust none none (-1) (n : Int) = ((n : Int) - 1, -1) := by
  unfold Builtin.Slice.sliceAdjust
  have h1 : ((-1 : Int) < 0) := by decide
  simp [h1]
theorem places_back (n : Nat) : Builtin.Slice.slicePlaces ((n : Int) - 1) (-1) (-1) = n := by
  unfold Builtin.Slice.slicePlaces
  have h1 : ¬ ((-1 : Int) > 0) := by decide
  simp only [h1, if_false]
  split
  · rw [show (- -1 : Int) = 1 by decide, Int.ediv_one]; omega
  · omega
theorem back_pick (xs : Array Value) : ((List.range xs.size).filterMap fun (m : Nat) => xs[((xs.size : Int) - 1 + (m : Int) * (-1)).toNat]?).toArray = xs.toList.reverse.toArray := by
  rw [← PySem.W.krv_all, ← List.filterMap_reverse, ← PySem.W.krv_range, List.filterMap_map]
  have e : (fun (m : Nat) => xs[((xs.size : Int) - 1 + (m : Int) * (-1)).toNat]?) = ((fun x => xs[x]?) ∘ fun k => xs.size - 1 - k) := by
    funext m
    have e : ((xs.size : Int) - 1 + (m : Int) * (-1)).toNat = xs.size - 1 - m := by omega
    show xs[((xs.size : Int) - 1 + (m : Int) * (-1)).toNat]? = xs[xs.size - 1 - m]?
    rw [e]
  rw [e]
theorem applied_back {sl : Addr} {t : Tok} {n : Nat} {Q : Int × Int × Nat → Shared → Prop} (hs : s.heap.IsSliceOf sl .none .none (.int (-1) t)) (h : Q ((n : Int) - 1, -1, n) s) : wpAny (model prog w) A (Builtin.Slice.sliceApplied (.ref sl) (pure (n : Int))) Q E s := by
  obtain ⟨os, g1, g2, g3⟩ := id hs
  unfold Builtin.Slice.sliceApplied Builtin.Slice.sliceFields
  refine wpAny_bind (wpAny_bind (wpAny_field g1 g3 (x := .none) rfl (wpAny_bind (wpAny_field g1 g3 (x := .none) rfl (wpAny_bind (wpAny_field g1 g3 (x := .int (-1) t) rfl (wpAny_pure ?_)))))))
  refine wpAny_bind (slicePart_int ?_)
  show wpAny _ _ (if ((-1 : Int) == 0) = true then _ else _) _ _ s
  rw [if_neg (by decide)]
  refine wpAny_bind (slicePart_none (wpAny_bind (slicePart_none (wpAny_bind (wpAny_pure ?_)))))
  show wpAny _ _ (match Builtin.Slice.sliceAdjust none none (-1) (n : Int) with | (lo, hi) => pure (lo, (-1 : Int), Builtin.Slice.slicePlaces lo hi (-1))) _ _ s
  rw [adj_back]
  show wpAny _ _ (pure ((n : Int) - 1, (-1 : Int), Builtin.Slice.slicePlaces ((n : Int) - 1) (-1) (-1))) _ _ s
  rw [places_back]
  exact wpAny_pure h
theorem tuple_back {t sl : Addr} {items : Array Value} {tk : Tok} {Q : Value → Shared → Prop} (ht : IsTup s.heap t items) (hs : s.heap.IsSliceOf sl .none .none (.int (-1) tk))
    (h : Q (.ref s.heap.objs.size) { s with heap := s.heap.push { cls := .type "tuple", data := .seq items.toList.reverse.toArray } }) (hsz : items.size ≤ sizeLine) : wpAny (model prog w) A (getItem (.ref t) (.ref sl)) Q E s := by
  have hok : sizeOk (.seq items.toList.reverse.toArray) := by
    show items.toList.reverse.toArray.size ≤ sizeLine
    rw [List.size_toArray, List.length_reverse, Array.length_toList]
    exact hsz
  obtain ⟨os, g1, g2, g3⟩ := id hs
  unfold getItem
  try with_reducible refine wpAny_holding ?_
  first | refine wpAny_bind (wpAny_pure ?_) | skip
  refine wpAny_bind (wpAny_sequenceKey ht.typeIs (by decide) ?_)
  refine wpAny_bind (wpAny_callSpecial?_slot (name := Str.ofString "__getitem__") ht.typeIs slot_tuple_getitem (wpAny_call_entry slot_tuple_getitem ht.typeIs entry_tuple_getitem ?_ (args_tuple_getitem _ _)))
  show wpAny _ _ (Builtin.Tuple.tupleItemsOf (.ref t) >>= _) _ _ s
  refine wpAny_bind (tupleItemsOf_ ht ?_)
  refine wpAny_bind (wpAny_typeOf (show s.TypeIs (.ref sl) "slice" from ⟨os, g1, g2⟩) ?_)
  rw [if_pos (by decide)]
  refine wpAny_bind (applied_back hs ?_)
  have hno : ¬ ((((items.size : Int) - 1) == 0 && (-1 : Int) == 1 && items.size == items.size) = true) := by
    intro q
    rw [Bool.and_eq_true, Bool.and_eq_true] at q
    exact absurd q.1.2 (by decide)
  show wpAny _ _ (if (((items.size : Int) - 1) == 0 && (-1 : Int) == 1 && items.size == items.size) = true then _ else _) _ _ s
  rw [if_neg hno, back_pick]
  first
    | exact wpAny_bind (m := Builtin.Tuple.tupleExact _) (wpAny_newObj_type (wpAny_pure ⟨_, rfl, wpAny_pure h⟩) hok)
    | exact wpAny_bind (m := Builtin.Tuple.tupleExact _) (wpAny_newObj_type (wpAny_bind (wpAny_pure (wpAny_pure ⟨_, rfl, wpAny_pure h⟩))) hok)
    | exact wpAny_bind (wpAny_bind (m := Builtin.Tuple.tupleExact _) (wpAny_newObj_type (wpAny_pure (wpAny_pure ⟨_, rfl, wpAny_pure h⟩)) hok))
    | exact wpAny_bind (wpAny_bind (m := Builtin.Tuple.tupleExact _) (wpAny_newObj_type (wpAny_pure ⟨_, rfl, wpAny_pure h⟩) hok))
end
theorem Vals.rev : ∀ {xs : List V} {us : List Value}, Vals xs us → Vals xs.reverse us.reverse
  | _, _, .nil => .nil
  | _, _, .cons r t => by
    rw [List.reverse_cons, List.reverse_cons]
    exact (Vals.rev t).append (.cons r .nil)
theorem Reps.rev {H : Hp} {L : Addr → Prop} : ∀ {ds : List D} {vs : List V}, Reps H L ds vs → Reps H L ds.reverse vs.reverse
  | [], vs, h => by
    cases (show vs = [] from h)
    rfl
  | d :: ds, vs, h => by
    obtain ⟨x, r, rfl, h1, h2⟩ := h
    rw [List.reverse_cons, List.reverse_cons]
    exact (Reps.rev h2).append (Reps.one h1)
section
variable {X : Cx} {Γ : Cy} {W : WX} {p2 pos : Pos} {e st : Expr} {k ks : Fk} {f g : En → Out D}
@[simp] def sRev (f : En → Out D) : En → Out D := fun e => (f e).bind fun d e1 => match d with
  | .lst ds => .ok (.lst ds.reverse) e1
  | .tup ds => .ok (.tup ds.reverse) e1
  | _ => .stuck
theorem ge_rev (he : GE X Γ W e k f) (hg : GE X Γ W st ks (s1 oNeg (sC (.int 1)))) (hsub : ∀ (s : Shared) (v : Value), subscripted (.Slice none none (some st) p2) false v (.ref s.heap.objs.size) = operate [v, .ref s.heap.objs.size] (getItem v (.ref s.heap.objs.size)) := by intro _ _; with_unfolding_all rfl) :
    GE X Γ W (.Subscript e (.Slice none none (some st) p2) pos) (kCut k) (sRev f) := by
  refine ⟨⟨fun pins s σ H Q I ⟨B, F, env, ok, h⟩ => ?_⟩⟩
  have h0 := oE.bind (show oE Γ W B F σ H ((f env).bind _) _ from h)
  refine Subscript_ (thn (he.pe.run pins s σ H (fun v H1 => ∃ (F1 : Fp) (d : D) (e1 : En), StOk Γ B F1 σ H1 e1 ∧ Go Γ F H F1 H1 ∧ RepK Γ k H F1 H1 d v ∧ oE Γ W B F1 σ H1 (match d with
      | .lst ds => .ok (.lst ds.reverse) e1
      | .tup ds => .ok (.tup ds.reverse) e1
      | _ => .stuck : Out D) fun d' _ H' F' => ∀ v, RepK Γ (kCut k) H F' H' d' v → Q v H') I ⟨B, F, env, ok, oE.imp h0 fun d e1 H1 F1 _ _ ⟨ok1, g1, h1⟩ v rv => ⟨F1, d, e1, ok1, g1, rv, h1⟩⟩) fun v s1 ⟨x, H1, I1, r1, F1, d, e1, ok1, g1, rv, h1⟩ => ?_)
  refine wpAny_Slice ?_
  refine wpAny_pure (wpAny_pure (thn (hg.pe.run pins s1 σ H1 (fun v H2 => v = .int (-1) ∧ ∃ F2, StOk Γ B F2 σ H2 e1 ∧ Go Γ F1 H1 F2 H2) I1 ⟨B, F1, e1, ok1, ?_⟩) fun vs s2 ⟨y, H2, I2, r2, q1, F2, ok2, g2⟩ => ?_))
  · intro H2 F2 ok2 g2 v r
    exact ⟨by cases ks <;> exact r, F2, ok2, g2⟩
  · subst q1
    obtain ⟨tk, rfl⟩ := r2
    have r3 := g2.repK rv
    have nf : Nf H F2 H2 := .of ok2 fun p hp => g1.free (g2.free hp)
    have I4 : Inv X pins σ H2 { s2 with heap := s2.heap.push { cls := .type "slice", data := .fields #[.none, .none, .int (-1) tk] } } := I2.kept (t' := s2.toks) fun b ob q => Heap.get?_push_of_some _ q
    have hsl : ({ s2 with heap := s2.heap.push { cls := .type "slice", data := .fields #[.none, .none, .int (-1) tk] } } : Shared).heap.IsSliceOf s2.heap.objs.size .none .none (.int (-1) tk) := Heap.IsSliceOf.new ..
    cases d with
    | lst ds =>
      obtain ⟨a, xs, rfl, hA, rA⟩ := r3.lst
      cases r1
      obtain ⟨its, rr, ht, hz⟩ := I4.list (SqL.of hA)
      have hlen := rr.length
      refine tail_any ht.isList.typeIs slot_list_getitem.lookup ?_ (hsub s2 (.ref a))
      refine wpAny_getItem_list_slice ht.isList hsl .none .none (.int (-1) tk) (by decide) ?_ (by rw [List.size_toArray]; omega)
      rw [PySem.W.krv_pick]
      refine ⟨.ref _, _, I4.laid (t' := s2.toks) (o := .lst xs.reverse) (fun b ob q => Heap.get?_push_of_some _ q) (Nat.le_refl _) ?_, rfl, ?_⟩
      · exact ⟨by rw [List.length_reverse]; exact hz, _, 0, Vals.rev rr, Heap.get?_push_size _ rfl⟩
      · have hp := I4.hok.fresh (Nat.le_refl _)
        refine h1 _ _ ((ok2).alloc hp) (g2.trans (go_alloc hp)) _ (RepK.mkLst upd_same (nf _ hp) ?_ (by cases k <;> rfl))
        refine ((?_ : Reps H2 (LB Γ (kCut k).isAll H F2) _ _).rev).same (same_upd hp)
        cases k <;> exact rA
    | tup ds =>
      obtain ⟨a, xs, rfl, hA, rA⟩ := r3.tup
      have rA' : Reps H2 (LB Γ (kCut k).isAll H F2) ds xs := by cases k <;> exact rA
      cases r1
      obtain ⟨its, rr, ht, hz⟩ := I4.tuple (SqT.rd hA)
      have hlen := rr.length
      refine tail_any ht.typeIs slot_tuple_getitem.lookup ?_ (hsub s2 (.ref a))
      refine tuple_back ht hsl ?_ (by rw [List.size_toArray]; omega)
      refine ⟨.ref _, _, I4.laid (t' := s2.toks) (o := .tup xs.reverse) (fun b ob q => Heap.get?_push_of_some _ q) (Nat.le_refl _) ?_, rfl, ?_⟩
      · exact ⟨by rw [List.length_reverse]; exact hz, _, Vals.rev rr, IsTup.new _ _⟩
      · have hp := I4.hok.fresh (Nat.le_refl _)
        exact h1 _ _ ((ok2).alloc hp) (g2.trans (go_alloc hp)) _ (RepK.mkTup (.inl upd_same) ((rA'.rev).same (same_upd hp)) (by cases k <;> rfl))
    | _ => exact h1.elim
/-- what holds no list of anyone's is as good as new -/
@[simp] def sAll (k : Fk) (f : En → Out D) : En → Out D := fun e => (f e).bind fun d e1 => if okK k d = true then .ok d e1 else .stuck
theorem ge_all (he : GE X Γ W e k f) : GE X Γ W e .all (sAll k f) := by
  refine ⟨PE.weak he.pe ?_⟩
  rintro σ H Q ⟨B, F, env, ok, h⟩
  refine ⟨B, F, env, ok, oE.imp (oE.bind h) fun d e1 H1 F1 _ _ ⟨ok1, g1, h1⟩ v rv => ?_⟩
  split at h1
  · rename_i hk
    exact h1.here ok1 v (RepK.ok (F := F1) hk rv)
  · exact h1.elim
end
end Ev

set_option Elab.async false
set_option linter.all false
set_option maxRecDepth 100000
set_option maxHeartbeats 4000000
/-! Ev20: sorted(set(xs)), xs a list of whole numbers. -/
namespace Ev
open PySem PySem.Spec PyProof.Rows L2 PySem.Calls
/-- a set as it is made -/
abbrev set0 (w : World) : Obj := { cls := .type "set", dict := none, data := .set #[] 0 (.fresh 0 0 (!w.params.followText "set-order")) }
abbrev lit0 (l : Addr) : Obj := { cls := .type "list_iterator", data := .fields #[.ref l, .int 0 0] }
section
variable {P : Program} {w : World} {A : Around} {E : Value → Shared → Prop} {s : Shared}
set_option maxHeartbeats 6400000 in
theorem set_of_list {l : Addr} {its : Array Value} (ns : List Int) {Q : Value → Shared → Prop} (nh : A.handled = none) (il : s.heap.IsList l its) (ii : IntsAre its.toList ns) (nb : ns.length + 1 < scanBound)
    (k : ∀ (h1 : Heap) (tk c : Nat), SetR w h1 s.heap.objs.size (fun j => decide (j ∈ ns)) c → c ≤ ns.length → (∀ b o, s.heap.get? b = some o → h1.get? b = some o) → Q (.ref s.heap.objs.size) { s with heap := h1, toks := tk }) :
    wpAny (model P w) A (call (.type "set") [.ref l]) Q E s := by
  have nsz : its.size = ns.length := by rw [← Array.length_toList]; exact IntsAre.length ii
  have ⟨_, _, q1⟩ := F.called_set.mro
  have q2 := F.called_set.made
  have q3 := F.called_set.sub
  refine wpAny_call (codeAny_of_tree (show wpAny _ _ (callAny (.type "set") _) _ _ _ from wpAny_pure ⟨Code.quiet_builtin _ (by decide +kernel), codeAny_builtin F.entry_type_call ?_⟩))
  rw [Around.under_plain (weight_type_call_type "set" [.ref l] []) rfl]
  have q4 := F.called_set.notType
  have q5 := F.called_set.canCreate
  have q6 := F.typeCall_set_1 (.ref l)
  repeat (any_goals (first | assumption | wp_step))
  refine codeAny_mono (code_set_led1 (.ref l) (E := E) (Q₁ := fun u s1 => u = .ref s.heap.objs.size ∧ s1 = { s with heap := s.heap.push (set0 w) }) ⟨rfl, rfl⟩) fun r s1 hr => ?_
  rcases r with e | fl
  · exact hr
  rcases fl with _ | _ | _ | u
  · exact hr.elim
  · exact hr.elim
  · exact hr.elim
  obtain ⟨rfl, rfl⟩ := hr
  have gS : (s.heap.push (set0 w)).get? s.heap.objs.size = some (set0 w) := Heap.get?_push_size _ rfl
  have tS : Shared.TypeIs { s with heap := s.heap.push (set0 w) } (.ref s.heap.objs.size) "set" := ⟨_, gS, rfl⟩
  have q7 := F.called_set.init.lookup
  have q8 := F.called_set.init.bind (.ref s.heap.objs.size)
  repeat (any_goals (first | assumption | wp_step))
  refine codeAny_mono (codeAny_call_builtin (R := wants (fun r t => r = .none ∧ ∃ h1 tk c, t = { s with heap := h1, toks := tk } ∧ SetR w h1 s.heap.objs.size (fun j => decide (j ∈ ns)) c ∧ c ≤ ns.length ∧ (∀ b o, s.heap.get? b = some o → h1.get? b = some o)) E)
    F.called_set.init.plain F.entry_set_init (check_set_init_1 tS ?_)) fun r t hr => ?_
  · obtain ⟨⟨kl, dd, dat, sls⟩, gl, z1, nl, z2⟩ := il
    dsimp only at z1 z2
    subst z1 z2
    have gl' : (s.heap.push (set0 w)).get? l = some ⟨.type "list", dd, .seq its nl, sls⟩ := Heap.get?_push_of_some _ gl
    have w1 := F.sub_list_set
    have w2 := F.sub_list_frozenset
    have w3 : (Value.type "list" == Value.type "dict") = false := by decide
    have il1 : (s.heap.push (set0 w)).IsList l its := ⟨_, gl', rfl, nl, rfl⟩
    unfold Builtin.«set.__init__» noKeywords Builtin.Frozenset.updateFrom
    generalize hPI : pyIter = PI
    wp_walk
    subst hPI
    refine wpAny_pyIter_list il1 (wpAny_bind (wpAny_runValue ?_))
    have lt : l < s.heap.objs.size := Heap.lt_size gl
    have nh3 : A.in1.in1.in1.handled = none := by simp [nh]
    have neI : l ≠ (s.heap.push (set0 w)).objs.size := by rw [Heap.size_push]; exact Nat.ne_of_lt (Nat.lt_succ_of_lt lt)
    have nin : s.heap.objs.size ∉ [(s.heap.push (set0 w)).objs.size, l] := by
      rw [Heap.size_push]
      simp only [List.mem_cons, List.not_mem_nil, or_false, not_or]
      exact ⟨Nat.ne_of_lt (Nat.lt_succ_self _), Nat.ne_of_gt lt⟩
    have val : ∀ (i : Nat) (v : Value), its[i]? = some v → ∃ k t, ns[i]? = some k ∧ v = .int k t := fun i v hv => by
      have hi : i < ns.length := by rw [← nsz]; exact (Array.getElem?_eq_some_iff.mp hv).1
      obtain ⟨t, e⟩ := PyProof.Rows.IntsAre.int_at ii i v (by rw [Array.getElem?_toList]; exact hv)
      refine ⟨ns[i], t, List.getElem?_eq_getElem hi, ?_⟩
      rw [e, List.getD_eq_getElem?_getD, List.getElem?_eq_getElem hi] <;> rfl
    refine set_update_ints ((Walks.list nh3 _ l neI its).toS) s.heap.objs.size nin ns nsz nb val (its.size - 0) 0 _ (by omega) (Nat.zero_le _) ⟨⟨_, Heap.get?_push_size _ rfl, rfl, rfl⟩, il1.push _⟩
      ⟨0, Nat.le_refl 0, setR_new_at (show ((s.heap.push (set0 w)).push (lit0 l)).get? s.heap.objs.size = some (set0 w) from Heap.get?_push_of_some _ gS)⟩ fun s3 c mv hc hR => ?_
    obtain ⟨h3, g3, d3, t3, o3⟩ := s3
    obtain rfl : g3 = s.gens := mv.gens
    obtain rfl : d3 = s.drawn := mv.drawn
    obtain rfl : o3 = s.os := mv.os
    show wpAny _ _ _ _ _ _
    refine wpAny_pure ?_
    show wpAny _ _ (ret Value.none) _ _ _
    rw [nsz] at hc
    refine wpAny_pure ⟨rfl, h3, t3, c, rfl, hR, hc, fun b o e => mv.heap b o ?_ (Heap.get?_push_of_some _ (Heap.get?_push_of_some _ e))⟩
    have hb := Heap.lt_size e
    rw [Heap.size_push]
    simp only [List.mem_cons, List.not_mem_nil, or_false, not_or]
    exact ⟨Nat.ne_of_lt hb, Nat.ne_of_lt (Nat.lt_succ_of_lt hb)⟩
  · rcases r with e | fl
    · exact hr
    rcases fl with _ | _ | _ | u
    · exact hr.elim
    · exact hr.elim
    · exact hr.elim
    obtain ⟨rfl, h1, tk, c, rfl, hR, hc, kp⟩ := hr
    repeat (any_goals (first | assumption | wp_step))
    exact k _ _ c hR hc kp
end

def rSetL (K : PySem.W.Frag) (w : World) : List V → Hp → VK → Prop := fun xs H Q => ∃ (a : Addr) (ns : List Int), xs = [V.ref a] ∧ SqL K H a (ns.map V.int) ∧ ns.length ≤ 1000 ∧
  ∀ (p : Addr) (c : Nat), H p = none → c ≤ ns.length → Q (.ref p) (upd H p (SetO w p (fun j => decide (j ∈ ns)) c))
theorem cr_setL {X : Cx} (hc : X.calm = true) : CallR X (.type "set") (rSetL X.K X.w) := by
  intro pins s σ H xs us Q I r h
  obtain ⟨a, ns, rfl, hs, hl, q⟩ := h
  obtain ⟨its, rv, pl, hz⟩ := I.list hs
  rw [Vals.ref1 r]
  refine set_of_list ns (I.ok.hd hc) pl.isList (ints_of_vals rv) (by unfold scanBound; omega) fun h1 tk c hR hcn kp => ?_
  have hp := I.hok.fresh (Nat.le_refl _)
  exact ⟨.ref _, upd H s.heap.objs.size (SetO X.w s.heap.objs.size (fun j => decide (j ∈ ns)) c), I.laid (t' := tk) kp (Nat.le_refl _) (setO_new hR), rfl, q _ c hp hcn⟩
def ddup : List Int → List Int
  | [] => []
  | x :: xs => if x ∈ xs then ddup xs else x :: ddup xs
theorem mem_ddup {x : Int} : ∀ {xs : List Int}, x ∈ ddup xs ↔ x ∈ xs
  | [] => Iff.rfl
  | y :: xs => by
    unfold ddup
    split
    · rename_i h
      rw [mem_ddup (xs := xs), List.mem_cons]
      exact ⟨.inr, fun z => z.elim (fun e => e ▸ h) id⟩
    · rw [List.mem_cons, List.mem_cons, mem_ddup (xs := xs)]
theorem nodup_ddup : ∀ xs : List Int, (ddup xs).Nodup
  | [] => .nil
  | x :: xs => by
    unfold ddup
    split
    · exact nodup_ddup xs
    · rename_i h
      exact List.nodup_cons.mpr ⟨fun z => h (mem_ddup.mp z), nodup_ddup xs⟩
/-- sorted(set(xs)) -/
def sortU (xs : List Int) : List Int := sortI (ddup xs)
theorem sortU_pw (xs : List Int) : (sortU xs).Pairwise (· < ·) := by
  have h1 := sortI_sorted (ddup xs)
  have h2 : (sortU xs).Nodup := (isort_perm _).nodup_iff.mpr (nodup_ddup xs)
  exact (h1.and h2).imp fun h => by omega
theorem mem_sortU {x : Int} {xs : List Int} : x ∈ sortU xs ↔ x ∈ xs := by
  unfold sortU
  rw [(isort_perm _).mem_iff, mem_ddup]
theorem pw_ext : ∀ {xs ys : List Int}, xs.Pairwise (· < ·) → ys.Pairwise (· < ·) → (∀ x, x ∈ xs ↔ x ∈ ys) → xs = ys
  | [], [], _, _, _ => rfl
  | [], y :: ys, _, _, h => absurd ((h y).mpr List.mem_cons_self) (by simp)
  | x :: xs, [], _, _, h => absurd ((h x).mp List.mem_cons_self) (by simp)
  | x :: xs, y :: ys, h1, h2, h => by
    obtain ⟨a1, a2⟩ := List.pairwise_cons.mp h1
    obtain ⟨b1, b2⟩ := List.pairwise_cons.mp h2
    have e : x = y := by
      rcases List.mem_cons.mp ((h x).mp List.mem_cons_self) with e | hx
      · exact e
      · rcases List.mem_cons.mp ((h y).mpr List.mem_cons_self) with e | hy
        · exact e.symm
        · have := a1 y hy
          have := b1 x hx
          omega
    subst e
    rw [pw_ext a2 b2 fun z => ?_]
    have hz := h z
    rw [List.mem_cons, List.mem_cons] at hz
    constructor
    · intro m
      rcases hz.mp (.inr m) with e | m'
      · have := a1 z m; omega
      · exact m'
    · intro m
      rcases hz.mpr (.inr m) with e | m'
      · have := b1 z m; omega
      · exact m'
@[simp] def oSortU : D → Option D
  | .lst ds => match ints? ds with
    | some ns => if ns.length < 64 then some (.lst ((sortU ns).map .int)) else none
    | none => none
  | _ => none
section
variable {X : Cx} {Γ : Cy} {W : WX} {e : Expr} {k : Fk} {f : En → Out D} {p1 p2 pos pos2 : Pos}
theorem ge_sortU (hc : X.calm = true) (he : GE X Γ W e k f) (hm1 : X.mg "sorted" = none) (hm2 : X.mg "set" = none) (hg1 : Gl X "sorted" := by rfl) (hg2 : Gl X "set" := by rfl)
    (hs : starEach [e] X.env = (false, eval e X.env) :: starEach [] X.env := by rfl) (hs2 : starEach [.Call (.Name "set" p2) [e] [] pos2] X.env = (false, eval (.Call (.Name "set" p2) [e] [] pos2) X.env) :: starEach [] X.env := by rfl) :
    GE X Γ W (.Call (.Name "sorted" p1) [.Call (.Name "set" p2) [e] [] pos2] [] pos) .all (s1 oSortU f) := by
  refine ⟨PE.weak (pe_callB (cr_sortedSet hc) hg1 hm1 (by decide +kernel) (pa_cons (pe_callTy (cr_setL hc) hg2 hm2 (by decide +kernel) (pa_cons he.pe pa_nil hs) (he := hs)) pa_nil hs2) (he := hs2)) ?_⟩
  rintro σ H Q ⟨B, F, env, ok, h⟩
  refine ⟨B, F, env, ok, oE.imp (oE.bind h) fun d e1 H1 F1 _ _ ⟨ok1, g1, h1⟩ u ru => ?_⟩
  cases q : oSortU d with
  | none => rw [q] at h1; exact h1.elim
  | some d' =>
    rw [q] at h1
    cases d with
    | lst ds =>
      unfold oSortU at q
      simp only at q
      cases q1 : ints? ds with
      | none => rw [q1] at q; cases q
      | some ns =>
        rw [q1] at q
        simp only at q
        split at q
        · rename_i hl
          cases q
          obtain ⟨a, xs, rfl, hA, rA⟩ := ru.lst
          cases ints?_eq q1
          rw [Reps.ints rA] at hA
          refine ⟨a, ns, rfl, SqL.of hA, by omega, fun p c hp hc2 => ?_⟩
          refine ⟨p, _, c, rfl, upd_same, by omega, fun ns' p' h1' h2' h3' hp' => ?_⟩
          have e' : ns' = sortU ns := pw_ext h1' (sortU_pw ns) fun x => by rw [h2' x, mem_sortU, decide_eq_true_eq]
          subst e'
          have hp1 : H1 p' = none := by
            rw [upd_ne (fun z => by rw [z, upd_same] at hp'; cases hp')] at hp'
            exact hp'
          have ok2 := ok1.alloc (o := SetO X.w p (fun j => decide (j ∈ ns)) c) hp
          refine h1 _ _ (ok2.alloc hp') ((go_alloc hp).trans (go_alloc hp')) _ ?_
          exact ⟨p', _, rfl, upd_same, ⟨g1.free hp1, ok1.notF hp1⟩, ints_reps _⟩
        · cases q
    | _ => cases q
end
end Ev

set_option Elab.async false
set_option linter.all false
set_option maxRecDepth 100000
set_option maxHeartbeats 4000000
/-! Ev21: a < b < c <= d. -/
namespace Ev
open PySem L2 PyProof.Rows PySem.Calls
def tChain3 (r1 r2 r3 : R2) (ta tb tc td : TE) : TE := fun σ H Q => ta σ H fun x H1 => tb σ H1 fun y H2 => r1 x y H2 fun t H3 => ∃ k, t = .bl k ∧
  (if k = true then tc σ H3 fun z H4 => r2 y z H4 fun t2 H5 => ∃ k2, t2 = .bl k2 ∧ (if k2 = true then td σ H5 fun w H6 => r3 z w H6 Q else Q (.bl false) H5) else Q (.bl false) H3)
section
variable {X : Cx} {Γ : Cy} {W : WX} {pos : Pos} {a b c d : Expr} {o1 o2 o3 : CmpOp} {r1 r2 r3 : R2} {ta tb tc td : TE}
theorem pe_chain3 (h1 : OpR X (compareOp o1) r1) (h2 : OpR X (compareOp o2) r2) (h3 : OpR X (compareOp o3) r3) (ha : PE X a ta) (hb : PE X b tb) (hc : PE X c tc) (hd : PE X d td)
    (hm : lastMarks [o1, o2, o3] [b, c, d] = false := by with_unfolding_all rfl) : PE X (.Compare a [o1, o2, o3] [b, c, d] pos) (tChain3 r1 r2 r3 ta tb tc td) := by
  refine ⟨fun pins s σ H Q I h => Compare_chain (thn (ha.run pins s σ H _ I h) fun v s1 ⟨x, H1, I1, rx, q1⟩ => chain_link (thn (hb.run pins s1 σ H1 _ I1 q1) fun u s2 ⟨y, H2, I2, ry, q2⟩ => thn (h1 pins s2 σ H2 x y v u _ I2 rx ry q2) fun t s3 ⟨z, H3, I3, rz, k, e, q3⟩ => ?_)) hm⟩
  subst e
  cases rz
  refine wpAny_truthy_bool ?_
  cases k with
  | false => exact ite_ff ⟨.bl false, H3, I3, rfl, q3⟩
  | true =>
    refine ite_tt (chain_link (thn (hc.run pins s3 σ H3 _ I3 q3) fun u2 s4 ⟨y2, H4, I4, ry2, q4⟩ => thn (h2 pins s4 σ H4 y y2 u u2 _ I4 ry ry2 q4) fun t2 s5 ⟨z2, H5, I5, rz2, k2, e2, q5⟩ => ?_))
    subst e2
    cases rz2
    refine wpAny_truthy_bool ?_
    cases k2 with
    | false => exact ite_ff ⟨.bl false, H5, I5, rfl, q5⟩
    | true => exact ite_tt (chain_last (thn (hd.run pins s5 σ H5 _ I5 q5) fun u3 s6 ⟨y3, H6, I6, ry3, q6⟩ => h3 pins s6 σ H6 y2 y3 u2 u3 Q I6 ry2 ry3 q6))
variable {fa fb fc fd : Fk} {f g h k : En → Out D} {p1 p2 p3 : D → D → Option D}
@[simp] def sChain3 (p1 p2 p3 : D → D → Option D) (f g h k : En → Out D) : En → Out D := fun e => (f e).bind fun x e1 => (g e1).bind fun y e2 => match p1 x y with
  | some (.bl true) => (h e2).bind fun z e3 => match p2 y z with
    | some (.bl true) => (k e3).bind fun w e4 => lift (p3 z w) e4
    | some (.bl false) => .ok (.bl false) e3
    | _ => .stuck
  | some (.bl false) => .ok (.bl false) e2
  | _ => .stuck
theorem chain3_core (h1 : HOp r1 p1) (h2 : HOp r2 p2) (h3 : HOp r3 p3) {σ : L2.St} {H : Hp} {Q : VK} (hh : tE Γ W .all (sChain3 p1 p2 p3 f g h k) σ H Q) : tChain3 r1 r2 r3 (tE Γ W fa f) (tE Γ W fb g) (tE Γ W fc h) (tE Γ W fd k) σ H Q := by
  obtain ⟨B, F, env, ok, hh⟩ := hh
  refine bin_ok ok hh fun x y e2 u v H2 F2 ok2 g2 ru rv hh => ?_
  cases q : p1 x y with
  | none => rw [q] at hh; exact hh.elim
  | some d =>
    rw [q] at hh
    obtain ⟨hs, hr⟩ := h1 x y d q
    refine hr H2 (Lx Γ F2) u v _ ru.x rv.x ?_
    cases d with
    | bl t =>
      refine ⟨t, rfl, ?_⟩
      cases t with
      | true =>
        refine ⟨B, F2, e2, ok2, oE.imp (oE.bind hh) fun z e3 H3 F3 _ _ ⟨ok3, g3, hh3⟩ w rz => ?_⟩
        cases q2 : p2 y z with
        | none => rw [q2] at hh3; exact hh3.elim
        | some d2 =>
          rw [q2] at hh3
          obtain ⟨hs2, hr2⟩ := h2 y z d2 q2
          refine hr2 H3 (Lx Γ F3) v w _ (g3.rep rv.x) rz.x ?_
          cases d2 with
          | bl t2 =>
            refine ⟨t2, rfl, ?_⟩
            cases t2 with
            | true =>
              refine ⟨B, F3, e3, ok3, oE.imp (oE.bind hh3) fun z4 e4 H4 F4 _ _ ⟨ok4, g4, hh4⟩ w4 rz4 => ?_⟩
              cases q3 : p3 z z4 with
              | none => rw [q3] at hh4; exact hh4.elim
              | some d3 =>
                rw [q3] at hh4
                obtain ⟨hs3, hr3⟩ := h3 z z4 d3 q3
                exact hr3 H4 (Lx Γ F4) w w4 Q (g4.rep rz.x) rz4.x (hh4.here ok4 _ (rep_s hs3))
            | false => exact hh3.here ok3 _ rfl
          | _ => exact hh3.elim
      | false => exact hh.here ok2 _ rfl
    | _ => exact hh.elim
theorem ge_chain3 (C1 : CmpOk X o1 p1) (C2 : CmpOk X o2 p2) (C3 : CmpOk X o3 p3) (ha : GE X Γ W a fa f) (hb : GE X Γ W b fb g) (hc : GE X Γ W c fc h) (hd : GE X Γ W d fd k) (hm : lastMarks [o1, o2, o3] [b, c, d] = false := by with_unfolding_all rfl) :
    GE X Γ W (.Compare a [o1, o2, o3] [b, c, d] pos) .all (sChain3 p1 p2 p3 f g h k) := by
  obtain ⟨r, x1, y1⟩ := C1.ex
  obtain ⟨r', x2, y2⟩ := C2.ex
  obtain ⟨r'', x3, y3⟩ := C3.ex
  exact ⟨PE.weak (pe_chain3 x1 x2 x3 ha.pe hb.pe hc.pe hd.pe hm) fun _ _ _ h => chain3_core y1 y2 y3 h⟩
end
end Ev

set_option Elab.async false
set_option linter.all false
set_option maxRecDepth 100000
set_option maxHeartbeats 4000000
/-! Ev22: slots whose lists are newer than the def's entry. -/
namespace Ev
open PySem L2
section
variable {Γ : Cy} {B : Base} {F : Fp} {σ : L2.St} {H : Hp} {env : En}
theorem StOk.setN (ok : StOk Γ B F σ H env) {i : Nat} {d : D} {v : V} (hx : i ∉ Γ.X) (hm : i ∉ Γ.M) (r : Rep H (La F) d v) (hn : ∀ a, v = .ref a → B.E a = none) : StOk Γ B F (σ.set i (some v)) H (env.set i (some d)) where
  len := by rw [List.length_set, List.length_set]; exact ok.len
  dom := ok.dom
  keep := ok.keep
  slot := fun j d' e => by
    by_cases hj : i = j
    · subst hj
      have hl : i < env.length := by
        have := (List.getElem?_eq_some_iff.mp e).1
        rwa [List.length_set] at this
      rw [List.getElem?_set_self hl] at e
      cases e
      refine ⟨v, List.getElem?_set_self (by rw [ok.len]; exact hl), ?_⟩
      unfold SlotOk
      rw [if_neg hx, if_neg hm]
      exact r
    · rw [List.getElem?_set_ne hj] at e
      obtain ⟨w, h1, h2⟩ := ok.slot j d' e
      exact ⟨w, by rw [List.getElem?_set_ne hj]; exact h1, h2⟩
  disj := ok.disj
  orig := ok.orig
  trk := ok.trk
  xval := fun p hp' => by
    obtain ⟨h1, h2⟩ := ok.xval p hp'
    refine ⟨h1, ?_⟩
    rw [List.getElem?_set_ne]
    · exact h2
    · rintro rfl
      exact hx (ok.xvx p hp')
  xdef := fun p hp' hX => by
    obtain ⟨d', h⟩ := ok.xdef p hp' hX
    refine ⟨d', ?_⟩
    rw [List.getElem?_set_ne]
    · exact h
    · rintro rfl
      exact hx hX
  entD := ok.entD
  entF := ok.entF
  xvx := ok.xvx
  newv := fun j hj a e => by
    by_cases z : i = j
    · subst z
      by_cases hl : i < σ.length
      · rw [List.getElem?_set_self hl] at e
        cases e
        exact hn a rfl
      · rw [List.getElem?_eq_none (by rw [List.length_set]; omega)] at e
        cases e
    · rw [List.getElem?_set_ne z] at e
      exact ok.newv j hj a e
end

section
variable {X : Cx} {Γ : Cy} {W : WX} {pos : Pos} {e : Expr} {k : Fk} {fe : En → Out Ev.D} {x y : Str} {p p2 : Pos}
@[simp] def sSetN (i : Nat) (f : En → Out Ev.D) : En → Out Fl := fun e => (f e).bind fun d e1 => match d with
  | .lst ds => .ok .nx (e1.set i (some (.lst ds)))
  | _ => .stuck
/-- a slot gets a new list -/
theorem gs_setN {x : Str} {p : Pos} (i : Nat) (hN : X.N.Nodup) (he : GE X Γ W e .all fe) (hx : i ∉ Γ.X := by (try dsimp only); decide) (hm : i ∉ Γ.M := by (try dsimp only); decide) (hi : X.N[i]? = some x := by rfl) (hl : Loc X.env.scope x := by first | exact Or.inl rfl | exact Or.inr rfl)
    (hs : swapsWith e (some (.Name x p)) pos.line X.env = pure false := by rfl) (hf : X.fn x = true ∨ X.env.scope.names.lookup x = some .local := by first | exact .inl rfl | exact .inr rfl) : GS X Γ W (.Assign [.Name x p] e pos) (sSetN i fe) := by
  refine ⟨PS.weak (ps_set hN hi hl he.pe hs hf) ?_⟩
  rintro D σ H ⟨B, F, env, ok, h⟩
  refine ⟨B, F, env, ok, oE.imp (oS.bind h) fun d e1 H1 F1 _ _ ⟨ok1, g1, h1⟩ v rv => ?_⟩
  cases d with
  | lst ds =>
    refine h1 _ H1 F1 (ok1.setN hx hm (RepK.okB (k := .all) rfl rv) fun a ea => ?_)
    obtain ⟨a', xs, e1', e2', e3', _⟩ := rv
    rw [e1'] at ea
    cases ea
    cases q : B.E a with
    | none => rfl
    | some o => exact absurd e3'.1 (ok.entD a (by rw [q]; simp))
  | _ => exact h1.elim
/-- j = i, a list of the def's own goes to a slot of new lists -/
theorem gs_moveN (j i : Nat) (hN : X.N.Nodup) (hxi : i ∉ Γ.X := by (try dsimp only); decide) (hmi : i ∈ Γ.M := by (try dsimp only); decide) (hxj : j ∉ Γ.X := by (try dsimp only); decide) (hmj : j ∉ Γ.M := by (try dsimp only); decide)
    (hi : X.N[i]? = some x := by rfl) (hj : X.N[j]? = some y := by rfl) (hv : Vis X.env.scope x := by first | exact Or.inl rfl | exact Or.inr (Or.inl rfl) | exact Or.inr (Or.inr rfl)) (hl : Loc X.env.scope y := by first | exact Or.inl rfl | exact Or.inr rfl)
    (hd : (x == ("__debug__" : Str)) = false := by decide) (hcd : (x == ("__classdict__" : Str)) = false := by decide)
    (hs : swapsWith (.Name x p) (some (.Name y p2)) pos.line X.env = pure false := by rfl) (hf : X.fn y = true ∨ X.env.scope.names.lookup y = some .local := by first | exact .inl rfl | exact .inr rfl) :
    GS X Γ W (.Assign [.Name y p2] (.Name x p) pos) (sMove j i) := by
  refine ⟨PS.weak (ps_set hN hj hl (pe_var hi hv hd hcd) hs hf) ?_⟩
  rintro D σ H ⟨B, F, env, ok, h⟩
  unfold sMove at h
  split at h
  · rename_i ds e1
    obtain ⟨ds', a, xs, q, e2, e3, e4, e5⟩ := ok.atM hxi hmi e1
    cases q
    refine ⟨_, e2, ?_⟩
    have sub : ∀ k b, b ∈ setF F i [] k → b ∈ F k := fun k b hb => by
      rcases setF_mem hb with ⟨_, z⟩ | ⟨_, z⟩
      · cases z
      · exact z
    have ok1 : StOk Γ B (setF F i []) σ H (env.set i none) := by
      refine ⟨by rw [List.length_set]; exact ok.len, ok.dom, ok.keep, fun k d e => ?_, fun k l b hne hb hb' => ok.disj k l b hne (sub k b hb) (sub l b hb'), fun k b hb => ok.orig k b (sub k b hb), fun k b hb => ok.trk k b (sub k b hb), ok.xval, fun q hq hX => ?_, ok.entD, fun k hk b hb => ok.entF k hk b (sub k b hb), ok.xvx, ok.newv⟩
      · by_cases hk : i = k
        · subst hk
          have hl : i < env.length := by
            have := (List.getElem?_eq_some_iff.mp e).1
            rwa [List.length_set] at this
          rw [List.getElem?_set_self hl] at e
          cases e
        · rw [List.getElem?_set_ne hk] at e
          obtain ⟨w, h1, h2⟩ := ok.slot k d e
          exact ⟨w, h1, h2.less (setF_ne fun z => hk z.symm) sub⟩
      · obtain ⟨d, hd⟩ := ok.xdef q hq hX
        exact ⟨d, by rw [List.getElem?_set_ne]; exact hd; rintro rfl; exact hxi hX⟩
    refine h _ H _ (ok1.setN hxj hmj ⟨a, xs, rfl, e4, fun k hk => ?_, e5.imp (fun _ _ q => q) fun _ _ q l => ⟨q, fun k hk => l k (sub k _ hk)⟩⟩ fun b eb => ?_)
    · by_cases hik : i = k
      · subst hik
        rw [setF_eq] at hk; cases hk
      · exact ok.disj i k a hik (by rw [e3]; simp) (sub k a hk)
    · cases eb
      exact ok.entF i hxi a (by rw [e3]; simp)
  · exact h.elim
/-- return of a slot's new list: the combinator of a list of the def's own -/
theorem gs_retP {x : Str} {p : Pos} (i : Nat) (hx : i ∉ Γ.X := by (try dsimp only); decide) (hm : i ∉ Γ.M := by (try dsimp only); decide) (hp : i ∈ Γ.P := by (try dsimp only); decide) (hN : X.N[i]? = some x := by rfl) (hv : Vis X.env.scope x := by first | exact Or.inl rfl | exact Or.inr (Or.inl rfl) | exact Or.inr (Or.inr rfl)) (hd : (x == ("__debug__" : Str)) = false := by decide)
    (hcd : (x == ("__classdict__" : Str)) = false := by decide) : GS X Γ W (.Return (some (.Name x p)) pos) (sRetM i) := by
  refine ⟨PS.weak (ps_ret (pe_var hN hv hd hcd)) ?_⟩
  rintro D σ H ⟨B, F, env, ok, h⟩
  unfold sRetM at h
  split at h
  · rename_i ds e1
    split at h
    · rename_i hl
      obtain ⟨v, e2, so⟩ := ok.slot i _ e1
      unfold SlotOk at so
      rw [if_neg hx, if_neg hm] at so
      obtain ⟨a, xs, rfl, q4, q3, q5⟩ := so
      exact ⟨_, e2, h _ σ H F ok ⟨a, xs, rfl, q4, ⟨ok.newv i hp a e2, fun j _ => q3 j⟩, q5.lf hl⟩⟩
    · exact h.elim
  · exact h.elim
end
end Ev

set_option Elab.async false
set_option linter.all false
set_option maxRecDepth 100000
set_option maxHeartbeats 4000000
/-! Ev23: the last item of a list of the def's own, taken off. -/
namespace Ev
open PySem L2
theorem Reps.last {H : Hp} {L : Addr → Prop} : ∀ {ds : List D} {xs : List V}, Reps H L ds xs → ∀ {d : D}, ds.getLast? = some d → ∃ y, xs[xs.length - 1]? = some y ∧ Rep H L d y ∧ Reps H L ds.dropLast xs.dropLast
  | [], _, _, _, q => by cases q
  | [d0], vs, r, d, q => by
    obtain ⟨x, r0, rfl, h1, h2⟩ := r
    cases (show r0 = [] from h2)
    cases q
    exact ⟨x, rfl, h1, rfl⟩
  | d0 :: d1 :: ds, vs, r, d, q => by
    obtain ⟨x, r0, rfl, h1, h2⟩ := r
    have h2' := h2
    obtain ⟨x1, r1, rfl, h3, h4⟩ := h2
    rw [List.getLast?_cons_cons] at q
    obtain ⟨y, e1, e2, e3⟩ := Reps.last h2' q
    refine ⟨y, ?_, e2, ?_⟩
    · simpa using e1
    · rw [List.dropLast_cons_cons, List.dropLast_cons_cons]
      exact ⟨x, _, rfl, h1, e3⟩
section
variable {X : Cx} {Γ : Cy} {W : WX} {pos : Pos} {x : Str} {p : Pos} {tg : Expr} {gt : D → En → Option En}
@[simp] def sPop (i : Nat) (g : D → En → Option En) : En → Out Fl := fun e => match atLst e i with
  | none => .stuck
  | some ds => match ds.getLast? with
    | none => .stuck
    | some d => match g d (e.set i (some (.lst ds.dropLast))) with
      | some e2 => .ok .nx e2
      | none => .stuck
/-- targets = xs.pop() -/
theorem gs_pop {apos cpos : Pos} {vs : List Nat} (i : Nat) (hg : GG X Γ tg vs gt) (hx : i ∉ Γ.X := by (try dsimp only); decide) (hm : i ∈ Γ.M := by (try dsimp only); decide) (hi : X.N[i]? = some x := by rfl) (hv : Vis X.env.scope x := by first | exact Or.inl rfl | exact Or.inr (Or.inl rfl) | exact Or.inr (Or.inr rfl))
    (hd : (x == ("__debug__" : Str)) = false := by decide) (hcd : (x == ("__classdict__" : Str)) = false := by decide)
    (hPE : ∀ {ta : TE}, PE X (.Name x p) ta → PE X (.Call (.Attribute (.Name x p) "pop" apos) [] [] cpos) (tBM0 X.K "list" rPop ta) := by exact fun h1 => pe_bm0 PySem.F.plainAttrs_list PySem.F.slot_list_pop PySem.F.type_list_pop mt_pop h1)
    (hs : swapsWithSole [tg] (.Call (.Attribute (.Name x p) "pop" apos) [] [] cpos) pos.line X.env = pure false := by rfl) (hw : swappedStores [tg] (.Call (.Attribute (.Name x p) "pop" apos) [] [] cpos) X.env = pure none := by rfl)
    (h1 : (assignEach [tg] X.env).map (·.2) = [assign tg X.env] := by rfl) :
    GS X Γ W (.Assign [tg] (.Call (.Attribute (.Name x p) "pop" apos) [] [] cpos) pos) (sPop i gt) := by
  refine ⟨PS.weak (ps_asg (hPE (pe_var hi hv hd hcd)) hg.pg hs hw h1) ?_⟩
  rintro D σ H ⟨B, F, env, ok, h⟩
  unfold sPop at h
  cases q0 : atLst env i with
  | none => rw [q0] at h; exact h.elim
  | some ds =>
    rw [q0] at h
    obtain ⟨ds', a, xs, q, e2, e3, e4, r⟩ := ok.atM hx hm (atLst_eq q0)
    cases q
    simp only at h
    cases ql : ds.getLast? with
    | none => rw [ql] at h; exact h.elim
    | some d =>
      rw [ql] at h
      simp only at h
      obtain ⟨y, hy, ry, rd⟩ := r.last ql
      have ha : a ∈ F i := by rw [e3]; simp
      have kp : ∀ b o, b ≠ a → H b = some o → upd H a (.lst xs.dropLast) b = some o := fun b o q e => by rw [upd_ne q]; exact e
      have neL : ∀ {b : Addr}, La F b → b ≠ a := fun {b} l e => l i (by rw [e]; exact ha)
      have neT : ∀ {b : Addr} {zs : FzO}, H b = some zs.1 → b ≠ a := fun {b zs} q e => by rw [e, e4] at q; exact fz_not zs (by rw [← Option.some.inj q]; trivial)
      have ok1 := ok.mutM hx hm (atLst_eq q0) e2 e3 e4 rd
      have ry' : Rep (upd H a (.lst xs.dropLast)) (La F) d y := ry.imp (fun _ _ q => kp _ _ (neT q) q) fun _ _ q l => ⟨kp _ _ (neL l) q, l⟩
      refine ⟨_, e2, .inl ⟨rfl, _, .inl (.inl e4)⟩, a, xs, y, rfl, rfl, e4, hy, B, F, _, d, ok1, ry', ?_⟩
      cases q : gt d (env.set i (some (.lst ds.dropLast))) with
      | none => rw [q] at h; exact h.elim
      | some e3 =>
        rw [q] at h
        exact fun σ' _ ok2 => h σ' _ F ok2
end
end Ev

set_option Elab.async false
set_option linter.all false
set_option maxRecDepth 100000
set_option maxHeartbeats 4000000
/-! Ev24: dicts of ints to True. -/
namespace Ev
open PySem L2 PyProof.Rows PySem.Spec
/-- sorted(d) of a dict with int keys, any number of them -/
theorem call_sortedDJ {X : Cx} (hcalm : X.calm = true) : CallR X (.builtin "sorted") (fun xs H Q => ∃ (a : Addr) (kvs : List (Key × V)) (ks : List Int), xs = [V.ref a] ∧ Rd H a (.dK kvs) ∧ kvs.map (·.1) = ks.map Sum.inl ∧ ks.length ≤ sizeLine ∧
    ∀ (ys : List Int) (p : Addr), ys.Perm ks → ys.Pairwise (· ≤ ·) → H p = none → Q (.ref p) (upd H p (.lst (ys.map V.int)))) := by
  intro pins s σ H xs us Q I r q
  obtain ⟨a, kvs, ks, ex, hd, hks, h64, q⟩ := q
  subst ex
  obtain ⟨u, eu, rx⟩ := vals1 r
  subst eu
  cases rx
  obtain ⟨z, lo, vs, rel, dd⟩ := dk_rd I.hok hd
  obtain ⟨ep, hat⟩ := dd.dictAt
  have hkeys : vs.map (·.1) = ks.map Sum.inl := rel.keys.symm.trans hks
  have hl : vs.length = ks.length := by
    have e := congrArg List.length hkeys
    rw [List.length_map, List.length_map] at e
    exact e
  have h16 : vs.length ≤ sizeLine := by rw [hl]; exact h64
  refine Calls.call_function_entry PyProof.Rows.kind_sorted PyProof.Rows.plain_sorted PyProof.Rows.entry_sorted (PyProof.Rows.args_sorted1 _) ?_
  unfold Builtin.«sorted»
  refine wpAny_bind (m := checkCount "sorted" 1 1 _) (wpAny_pure ?_)
  refine wpAny_bind (PySem.W.kdu_collect (A := X.A.in1) (PySem.W.kdl_dict (knd := mixKind X.prog X.w) (kvs := vs) (ep := ep) lo) (I.ok.hd hcalm) hat h16 fun h' tk acc hk hacc => ?_)
  have hal : acc.toList.length = ks.length := by rw [Array.length_toList, hacc.1, hl]
  have hS : IntsAre acc.toList ks := ints_each hal fun j v e => by
    obtain ⟨k, x, e1, e2⟩ := hacc.2 j v (by rw [← Array.getElem?_toList]; exact e)
    have e3 : (vs.map (·.1))[j]? = some k := by rw [List.getElem?_map, e1]; rfl
    rw [hkeys, List.getElem?_map] at e3
    cases e4 : ks[j]? with
    | none => rw [e4] at e3; cases e3
    | some y =>
      rw [e4] at e3
      have e5 : Sum.inl y = k := Option.some.inj e3
      subst e5
      rcases keyIs_shape (show keyIs (Sum.inl y) v = true from e2) with ⟨i, t, ek, ev⟩ | ⟨z, t, ek, ev⟩
      · cases ek
        exact ⟨y, t, rfl, ev⟩
      · cases ek
  have I1 : Inv X pins σ H { s with heap := h', toks := tk } := I.kept hk
  refine wpAny_bind (wpAny_newList ?_ (by rw [hal]; exact h64))
  have hoL : (h'.push (seqObj "list" acc.toList.toArray 0)).get? h'.objs.size = some (seqObj "list" acc.toList.toArray 0) := Heap.get?_push_size _ rfl
  show wpAny _ _ _ _ _ { s with heap := h'.push (seqObj "list" acc.toList.toArray 0), toks := tk }
  refine wpAny_bind (wpAny_holding (wpAny_call_entry PyProof.Rows.slot_list_sort ⟨_, hoL, rfl⟩ PyProof.Rows.entry_list_sort
    (SrtO.list_sort_ord (s := { s with heap := h'.push (seqObj "list" acc.toList.toArray 0), toks := tk }) SrtO.swo_int hoL (by rw [hal]; exact h64) (fun h2 => SrtO.ints_sortable hS h2) fun out g1 g2 => ⟨_, rfl, ?_⟩) (PyProof.Rows.args_list_sort _)))
  obtain ⟨k1, k2, k3⟩ := SrtO.ints_out hS g1 g2
  obtain ⟨e', he'⟩ := PyProof.Rows.sortedHeap_at (vs := acc.toList) (out := out.toArray) hoL
  have hlen : ((out.map SrtO.iv).map V.int).length ≤ sizeLine := by
    rw [List.length_map, k2.length_eq]
    exact h64
  refine wpAny_pure ⟨_, rfl, .ref h'.objs.size, upd H h'.objs.size (.lst ((out.map SrtO.iv).map V.int)), I1.laid (t' := tk) (fun b u e => ?_) (Nat.le_refl _)
    (show ObjOk X.prog X.w _ _ _ (.lst ((out.map SrtO.iv).map V.int)) from ⟨hlen, out, e', vals_of_ints k1, he'⟩), rfl, q _ _ k2 k3 (I1.hok.fresh (Nat.le_refl _))⟩
  have hb : b < h'.objs.size := Heap.lt_size e
  rw [PyProof.Rows.sortedHeap_old (Nat.ne_of_lt hb) (by rw [size_push']; exact Nat.lt_succ_of_lt hb)]
  exact Heap.get?_push_of_some _ e

def kvI (ks : List Int) : List (Key × V) := ks.map fun k => (Sum.inl k, V.bl true)
def putI (ks : List Int) (k : Int) : List Int := if k ∈ ks then ks else ks ++ [k]
theorem kvI_val (n : Int) : ∀ ks : List Int, (valV (kvI ks) (Sum.inl n)).isSome = decide (n ∈ ks)
  | [] => rfl
  | k :: ks => by
    have ih := kvI_val n ks
    unfold kvI at ih ⊢
    rw [List.map_cons]
    by_cases e : k = n
    · subst e
      rw [valV_pos (p := (Sum.inl k, V.bl true)) rfl]
      simp
    · rw [valV_neg (p := (Sum.inl k, V.bl true)) (fun z => e (Sum.inl.inj z)), ih]
      have e' : ¬ n = k := fun z => e z.symm
      simp [e']
theorem kvI_put (ks : List Int) (n : Int) : putK (kvI ks) (Sum.inl n) (V.bl true) = kvI (putI ks n) := by
  unfold putK putI
  rw [valV_any, kvI_val]
  by_cases h : n ∈ ks
  · rw [if_pos (decide_eq_true h), if_pos h]
    unfold kvI
    rw [List.map_map]
    refine List.map_congr_left fun k _ => ?_
    show (if (Sum.inl k : Key) = Sum.inl n then ((Sum.inl k : Key), V.bl true) else (Sum.inl k, V.bl true)) = _
    split <;> rfl
  · rw [if_neg (by simpa using h), if_neg h]
    unfold kvI
    rw [List.map_append]
    rfl
theorem kvI_keys (ks : List Int) : (kvI ks).map (fun kv => kV kv.1) = ks.map V.int := by
  unfold kvI
  rw [List.map_map]
  rfl
theorem kvI_len (ks : List Int) : (kvI ks).length = ks.length := List.length_map ..

section
variable {X : Cx} {Γ : Cy} {W : WX} {pos p p1 p2 p3 p4 : Pos} {e : Expr} {k : Fk} {fe : En → Out D} {x : Str}
@[simp] def atDct (e : En) (i : Nat) : Option (List Int) := match e[i]? with
  | some (some (.dct ks)) => some ks
  | _ => none
theorem atDct_eq {e : En} {i : Nat} {ks : List Int} (h : atDct e i = some ks) : e[i]? = some (some (.dct ks)) := by
  unfold atDct at h
  split at h
  · cases h; assumption
  · cases h
@[simp] def sDnew (i : Nat) : En → Out Fl := fun e => match e[i]? with
  | some none => .ok .nx (e.set i (some (.dct [0])))
  | _ => .stuck
theorem gs_dnew {j1 j2} (i : Nat) (hN : X.N.Nodup) (hx : i ∈ Γ.X := by (try dsimp only); decide) (hp : i ∉ Γ.P := by (try dsimp only); decide) (hi : X.N[i]? = some x := by rfl) (hl : Loc X.env.scope x := by first | exact Or.inl rfl | exact Or.inr rfl)
    (hs : swapsWith (.Dict [some (.Constant (.int 0) j1 p1)] [.Constant (.bool true) j2 p2] p3) (some (.Name x p)) pos.line X.env = pure false := by rfl) (hf : X.fn x = true ∨ X.env.scope.names.lookup x = some .local := by first | exact .inl rfl | exact .inr rfl) :
    GS X Γ W (.Assign [.Name x p] (.Dict [some (.Constant (.int 0) j1 p1)] [.Constant (.bool true) j2 p2] p3) pos) (sDnew i) := by
  refine ⟨PS.weak (ps_set hN hi hl (pe_disp (pps_cons pe_int pe_bl pps_nil) rfl rfl (by simp) (by simp)) hs hf) ?_⟩
  rintro D σ H ⟨B, F, env, ok, h⟩
  unfold sDnew at h
  split at h
  · rename_i e0
    intro q hq
    refine ⟨upd_same, [(Sum.inl 0, V.bl true)], rfl, by decide, ?_⟩
    rw [upd_upd]
    refine h _ _ _ (ok.own (.inr hx) hp (fun r hr er => ?_) hq trivial fun F' e _ => ?_)
    · obtain ⟨d', hd⟩ := ok.xdef r hr (er ▸ hx)
      rw [er, e0] at hd
      cases hd
    · unfold SlotOk
      rw [if_pos hx]
      exact ⟨q, rfl, e, upd_same⟩
  · exact h.elim
@[simp] def sDput (i : Nat) (f : En → Out D) : En → Out Fl := fun e => match e[i]? with
  | some (some (.dct _)) => (f e).bind fun d e1 => match d, atDct e1 i with
    | .int n, some ks => if lim ks.length = true then .ok .nx (e1.set i (some (.dct (putI ks n)))) else .stuck
    | _, _ => .stuck
  | _ => .stuck
theorem gs_dput {j2} (hu : X.A.units + 1 < cLine) (i : Nat) (he : GE X Γ W e k fe) (hx : i ∈ Γ.X := by (try dsimp only); decide) (hi : X.N[i]? = some x := by rfl) (hv : Vis X.env.scope x := by first | exact Or.inl rfl | exact Or.inr (Or.inl rfl) | exact Or.inr (Or.inr rfl))
    (hd : (x == ("__debug__" : Str)) = false := by decide) (hcd : (x == ("__classdict__" : Str)) = false := by decide)
    (hs : swapsWith (.Constant (.bool true) j2 p2) (some (.Subscript (.Name x p1) e p3)) pos.line X.env = pure false := by rfl) :
    GS X Γ W (.Assign [.Subscript (.Name x p1) e p3] (.Constant (.bool true) j2 p2) pos) (sDput i fe) := by
  refine ⟨PS.weak (ps_dput hu (pe_var hi hv hd hcd) he.pe pe_bl hs) ?_⟩
  rintro D σ H ⟨B, F, env, ok, h⟩
  unfold sDput at h
  split at h
  · rename_i ks0 e0
    obtain ⟨v, e1, a, rfl, hF, hA⟩ := ok.atX hx e0
    refine ⟨_, e1, B, F, env, ok, oE.imp (oS.bind h) fun d ee H1 F1 _ _ ⟨ok1, g1, h1⟩ u ru => ?_⟩
    cases d with
    | int n =>
      cases q0 : atDct ee i with
      | none => rw [q0] at h1; exact h1.elim
      | some ks =>
      rw [q0] at h1
      simp only at h1
      have q1 := atDct_eq q0
      split at h1
      · rename_i hk
        obtain ⟨v', e2, a', rfl, hF1, hA1⟩ := ok1.atX hx q1
        rw [e1] at e2
        cases e2
        refine ⟨a, _, rfl, .inl ⟨kvI ks, Sum.inl n, hA1, ru.x, ?_, rfl⟩, ?_⟩
        · rw [kvI_len]
          exact Nat.lt_of_le_of_lt (of_decide_eq_true hk) (by decide)
        · rw [kvI_put]
          exact h1 _ _ _ (ok1.mutX hx q1 e1 (by rw [hF1]; simp) hA1 trivial trivial ⟨a, rfl, hF1, upd_same⟩)
      · exact h1.elim
    | _ => exact h1.elim
  · exact h.elim
@[simp] def sDnotin (i : Nat) (f : En → Out D) : En → Out D := fun e => (f e).bind fun d e1 => match d, atDct e1 i with
  | .int n, some ks => .ok (.bl (!decide (n ∈ ks))) e1
  | _, _ => .stuck
theorem dnotin_core {tv : TE} (i : Nat) (hx : i ∈ Γ.X) (htv : ∀ {σ : L2.St} {H : Hp} {Q : VK} {v : V}, σ[i]? = some (some v) → Q v H → tv σ H Q) {σ : L2.St} {H : Hp} {Q : VK} (h : tE Γ W .all (sDnotin i fe) σ H Q) : tDNotIn (tE Γ W k fe) tv σ H Q := by
  obtain ⟨B, F, env, ok, h⟩ := h
  refine ⟨B, F, env, ok, oE.imp (oE.bind h) fun d ee H1 F1 _ _ ⟨ok1, g1, h1⟩ u ru => ?_⟩
  cases d with
  | int n =>
    cases q0 : atDct ee i with
    | none => rw [q0] at h1; exact h1.elim
    | some ks =>
    rw [q0] at h1
    simp only at h1
    have q1 := atDct_eq q0
    obtain ⟨v', e2, a, rfl, hF1, hA1⟩ := ok1.atX hx q1
    have e3 : u = V.int n := ru.x
    refine htv e2 ⟨a, valV (kvI ks) (Sum.inl n), rfl, ?_, ?_⟩
    · rw [e3]
      exact DGet.k (k := Sum.inl n) hA1
    · rw [kvI_val]
      exact h1.here ok1 _ rfl
  | _ => exact h1.elim
theorem ge_dnotin (hu : X.A.units + 1 < cLine) (i : Nat) (he : GE X Γ W e k fe) (hx : i ∈ Γ.X := by (try dsimp only); decide) (hi : X.N[i]? = some x := by rfl) (hv : Vis X.env.scope x := by first | exact Or.inl rfl | exact Or.inr (Or.inl rfl) | exact Or.inr (Or.inr rfl))
    (hd : (x == ("__debug__" : Str)) = false := by decide) (hcd : (x == ("__classdict__" : Str)) = false := by decide) :
    GE X Γ W (.Compare e [.NotIn] [.Name x p1] pos) .all (sDnotin i fe) :=
  ⟨PE.weak (pe_cmp (pc_dnotin hu he.pe (pe_var hi hv hd hcd)) rfl) fun _ _ _ h => dnotin_core i hx (fun e q => ⟨_, e, q⟩) h⟩
theorem gt_dnotin (hu : X.A.units + 1 < cLine) (i : Nat) (he : GE X Γ W e k fe) (hx : i ∈ Γ.X := by (try dsimp only); decide) (hi : X.N[i]? = some x := by rfl) (hv : Vis X.env.scope x := by first | exact Or.inl rfl | exact Or.inr (Or.inl rfl) | exact Or.inr (Or.inr rfl))
    (hd : (x == ("__debug__" : Str)) = false := by decide) (hcd : (x == ("__classdict__" : Str)) = false := by decide) :
    GT X Γ W (.Compare e [.NotIn] [.Name x p1] pos) (sB (sDnotin i fe)) :=
  ⟨PT.weak (pt_cmp (pc_dnotin hu he.pe (pe_var hi hv hd hcd)) rfl) fun _ _ _ h => dnotin_core i hx (fun e q => ⟨_, e, q⟩) (tB_of h)⟩
@[simp] def sDlist (i : Nat) : En → Out D := fun e => match e[i]? with
  | some (some (.dct ks)) => .ok (.lst (ks.map .int)) e
  | _ => .stuck
theorem ge_dlist (i : Nat) (hc : X.calm = true) (hm : X.mg "list" = none) (hx : i ∈ Γ.X := by (try dsimp only); decide) (hN : X.N[i]? = some x := by rfl) (hv : Vis X.env.scope x := by first | exact Or.inl rfl | exact Or.inr (Or.inl rfl) | exact Or.inr (Or.inr rfl)) (hg : Gl X "list" := by rfl)
    (hd : (x == ("__debug__" : Str)) = false := by decide) (hcd : (x == ("__classdict__" : Str)) = false := by decide)
    (he : starEach [.Name x p1] X.env = (false, eval (.Name x p1) X.env) :: starEach [] X.env := by rfl) (hpl : (backTo pos (starEach [] X.env)).any (·.1) = false := by rfl) :
    GE X Γ W (.Call (.Name "list" p) [.Name x p1] [] pos) .all (sDlist i) := by
  refine ⟨PE.weak (pe_callTy (call_listD hc) hg hm (by decide +kernel) (pa_cons (pe_var hN hv hd hcd) pa_nil he) (by decide) (by decide) he hpl) ?_⟩
  rintro σ H Q ⟨B, F, env, ok, h⟩
  unfold sDlist at h
  split at h
  · rename_i ks e
    obtain ⟨v, e1, a, rfl, hF, hA⟩ := ok.atX hx e
    refine ⟨_, e1, a, kvI ks, rfl, .inl hA, fun q hq => ?_⟩
    rw [kvI_keys]
    exact h _ _ (ok.alloc hq) (go_alloc hq) _ ⟨q, _, rfl, upd_same, ⟨hq, ok.notF hq⟩, Reps.of_ints _⟩
  · exact h.elim
@[simp] def sDsorted (i : Nat) : En → Out D := fun e => match e[i]? with
  | some (some (.dct ks)) => if lim ks.length = true then .ok (.lst ((sortI ks).map .int)) e else .stuck
  | _ => .stuck
theorem ge_dsorted (i : Nat) (hc : X.calm = true) (hm : X.mg "sorted" = none) (hx : i ∈ Γ.X := by (try dsimp only); decide) (hN : X.N[i]? = some x := by rfl) (hv : Vis X.env.scope x := by first | exact Or.inl rfl | exact Or.inr (Or.inl rfl) | exact Or.inr (Or.inr rfl)) (hg : Gl X "sorted" := by rfl)
    (hd : (x == ("__debug__" : Str)) = false := by decide) (hcd : (x == ("__classdict__" : Str)) = false := by decide)
    (he : starEach [.Name x p1] X.env = (false, eval (.Name x p1) X.env) :: starEach [] X.env := by rfl) (hpl : (backTo pos (starEach [] X.env)).any (·.1) = false := by rfl) :
    GE X Γ W (.Call (.Name "sorted" p) [.Name x p1] [] pos) .all (sDsorted i) := by
  refine ⟨PE.weak (pe_callB (call_sortedDJ hc) hg hm (by decide +kernel) (pa_cons (pe_var hN hv hd hcd) pa_nil he) (by decide) (by decide) he hpl) ?_⟩
  rintro σ H Q ⟨B, F, env, ok, h⟩
  unfold sDsorted at h
  split at h
  · rename_i ks e
    split at h
    · rename_i hk
      obtain ⟨v, e1, a, rfl, hF, hA⟩ := ok.atX hx e
      refine ⟨_, e1, a, kvI ks, ks, rfl, .inl hA, by unfold kvI; rw [List.map_map]; rfl, lim_le hk, fun ys q hp hs hq => ?_⟩
      rw [sortI_uniq hp hs]
      exact h _ _ (ok.alloc hq) (go_alloc hq) _ ⟨q, _, rfl, upd_same, ⟨hq, ok.notF hq⟩, Reps.of_ints _⟩
    · exact h.elim
  · exact h.elim
@[simp] def dRgL1 : D → Option D
  | .int j => if rgOk 0 j = true then some (.lst (rangeD 0 j)) else none
  | _ => none
theorem ge_listRg1 {a : Expr} {fa : Fk} {f : En → Out D} {pos2 : Pos} (hc : X.calm = true) (ha : GE X Γ W a fa f) (hm : X.mg "list" = none) (hm2 : X.mg "range" = none) (hg : Gl X "list" := by rfl) (hg2 : Gl X "range" := by rfl)
    (na : starEach [a] X.env = (false, eval a X.env) :: starEach [] X.env := by rfl) (hp : (backTo pos2 (starEach [] X.env)).any (·.1) = false := by rfl)
    (nc : starEach [.Call (.Name "range" p2) [a] [] pos2] X.env = (false, eval (.Call (.Name "range" p2) [a] [] pos2) X.env) :: starEach [] X.env := by rfl) :
    GE X Γ W (.Call (.Name "list" p) [.Call (.Name "range" p2) [a] [] pos2] [] pos) .all (s1 dRgL1 f) := by
  refine ⟨PE.weak (pe_listRg hc hg hm (prg_1 hg2 hm2 ha.pe na) nc) ?_⟩
  rintro σ H Q ⟨B, F, env, ok, h⟩
  refine ⟨B, F, env, ok, oE.imp (oE.bind h) fun x e1 H1 F1 _ _ ⟨ok1, g1, h1⟩ u ru => ?_⟩
  cases q : dRgL1 x with
  | none => rw [q] at h1; exact h1.elim
  | some d =>
    rw [q] at h1
    cases x with
    | int j =>
      unfold dRgL1 at q
      simp only at q
      split at q
      · rename_i hr
        cases q
        cases (show u = _ from ru.x)
        exact ⟨j, rfl, rgOk_ok hr, fun p hp => h1 _ _ (ok1.alloc hp) (go_alloc hp) _ (RepK.mkLst (k := .all) upd_same ⟨g1.free hp, ok1.notF hp⟩ (rgV_rep 0 j) rfl)⟩
      · cases q
    | _ => cases q
end
end Ev

set_option Elab.async false
set_option linter.all false
set_option maxRecDepth 100000
set_option maxHeartbeats 4000000
/-! Ev25: objects made by a class; what is stuck. -/
namespace Ev
open PySem L2
section
variable {X : Cx} {k : Nat} {f C : Addr} {fd : FuncData} {ps : List Str} {sp : Sp} {E : L2.St → XK} {x m : Str} {p pos apos : Pos} {e o : Expr} {es : List Expr} {ta : TE} {t : TA} {CX : CXT}
/-- C(..), what is wanted of an exception by the slots -/
def tMakeS (C : Addr) (sp : Sp) (E : L2.St → XK) (t : TA) : TE := fun σ H Q => t σ H fun vs H1 => ∀ x dx, H1 x = none → H1 dx = none → dx ≠ x →
  sp (.ref x :: vs) (upd (upd H1 dx (.own x)) x (.ins C dx [])) (fun v H2 => v = .non ∧ Q (.ref x) H2) (E σ)
theorem run_makeS {pins : List (Addr × Obj)} {σ : L2.St} {H : Hp} {s : Shared} {Q : VK} {us : List Value} {vs : List V} (M : Mk X.K C f) (F : FnOk X.prog X.w X.K X.mg X.base CX k f fd ps sp) (hr : Room (k + 1) X.A) (hb : Binds X.K fd ps [])
    (hx : ∀ σ, PassesAt CX X σ (E σ)) (I : Inv X pins σ H s) (r : Vals vs us)
    (h : ∀ x dx, H x = none → H dx = none → dx ≠ x → sp (.ref x :: vs) (upd (upd H dx (.own x)) x (.ins C dx [])) (fun v H2 => v = .non ∧ Q (.ref x) H2) (E σ)) :
    wpAny (model X.prog X.w) X.A (call (.ref C) us) (EP X pins σ Q) X.xe s := by
  have hq := h (s.heap.objs.size + 1) s.heap.objs.size (I.hok.fresh (Nat.le_succ _)) (I.hok.fresh (Nat.le_refl _)) (Nat.ne_of_lt (Nat.lt_succ_self _))
  have I2 := Inv.made (C := C) I
  have r2 : Vals (V.ref (s.heap.objs.size + 1) :: vs) (Value.ref (s.heap.objs.size + 1) :: us) := .cons rfl r
  have hl : (Value.ref (s.heap.objs.size + 1) :: us).length = ps.length := by
    have e := r2.length
    rw [F.len _ _ _ _ hq] at e
    exact e.symm
  have b := hb _ (Value.ref (s.heap.objs.size + 1) :: us) I2.kIn (by rw [List.append_nil]; exact hl)
  rw [List.append_nil] at b
  refine wpAny_call (make_map (f := f) I.kIn M.makes M.init (beq_iff_eq.mp M.fn) (codeAny_mono (F.run _ X.stack _ _ ⟨Value.ref (s.heap.objs.size + 1) :: us, []⟩ (Value.ref (s.heap.objs.size + 1) :: us) _ _ (E σ) (hr.make C us [])
    (I2.env0.make C us []) b r2 hq) fun r s' hq' => ?_))
  cases r with
  | error e => exact hx σ pins _ _ e s' I2 hq'
  | ok fl =>
    cases fl with
    | ret u =>
      obtain ⟨v, H', I3, rv, ev, q3⟩ := I2.after hq'
      subst ev
      exact ⟨rv, ⟨V.ref (s.heap.objs.size + 1), H', I3, rfl, q3⟩⟩
    | next => exact False.elim hq'
    | brk => exact False.elim hq'
    | cont => exact False.elim hq'
theorem pe_makeS (M : Mk X.K C f) (F : FnOk X.prog X.w X.K X.mg X.base CX k f fd ps sp) (hr : Room (k + 1) X.A) (hg : Gl X x) (hm : X.mg x = some (.ref C)) (hb : Binds X.K fd ps []) (hx : ∀ σ, PassesAt CX X σ (E σ))
    (ha : PA X (e :: es) t) (hdb : (x == ("__debug__" : Str)) = false := by decide) (he : starEach (e :: es) X.env = (false, eval e X.env) :: starEach es X.env := by rfl) (hpl : (backTo pos (starEach es X.env)).any (·.1) = false := by rfl) :
    PE X (.Call (.Name x p) (e :: es) [] pos) (tMakeS C sp E t) := by
  refine ⟨fun pins s σ H Q I h => ?_⟩
  refine wpAny_Call_Name_kw (ld_glob I hg hm ?_ hdb)
  refine PySem.W.callWith_K (h₀ := X.base) I.ok.mod.kin M.kp (thn (ha.run pos pins s σ H _ I h) fun us s1 ⟨vs, H1, I1, r, q⟩ => ⟨I1.kIn, ?_⟩) he hpl
  exact run_makeS M F hr hb hx I1 r q
end
section
variable {X : Cx} {Γ : Cy} {W : WX}
@[simp] def sStuck : En → Out Fl := fun _ => .stuck
theorem gs_stuck {s : Stmt} : GS X Γ W s sStuck := ⟨⟨fun pins s σ H D I ⟨_, _, _, _, h⟩ => h.elim⟩⟩
theorem ge_stuck {e : Expr} {k : Fk} : GE X Γ W e k (fun _ => .stuck) := ⟨⟨fun pins s σ H Q I ⟨_, _, _, _, h⟩ => h.elim⟩⟩
end
end Ev
namespace Ev
open PySem L2
section
variable {C : Addr} {exc : Nat → Addr}
/-- the class as a def: what its __init__ raises; else stuck -/
def mkR : COut → COut
  | .raise c _ => .raise c []
  | _ => .stuck
def Φmk (Φ : List D → COut) : List D → COut
  | [d] => mkR (Φ [.non, d])
  | _ => .stuck
/-- __init__, self unseen -/
def Φself (Φ : List D → COut) : List D → COut
  | [.raw _, d] => Φ [.non, d]
  | _ => .stuck
theorem mk_step {Φ : List D → COut} {v : V} {H : Hp} {Q : VK} {E : XK} (h : spD C exc 1 [] (Φmk Φ) [v] H Q E) (x dx : Addr) (hx : H x = none) (hdx : H dx = none) (hne : dx ≠ x) :
    spD C exc 2 [] (Φself Φ) [.ref x, v] (upd (upd H dx (.own x)) x (.ins C dx [])) (fun w H2 => w = .non ∧ Q (.ref x) H2) E := by
  obtain ⟨ds, F, hl, a, m⟩ := h
  obtain ⟨d, rfl⟩ : ∃ d, ds = [d] := by
    match ds, hl with
    | [d], _ => exact ⟨d, rfl⟩
  have k : ∀ b o, H b = some o → (upd (upd H dx (.own x)) x (.ins C dx [])) b = some o := fun b o e => by
    rw [upd_ne (ne_of_none e hx), upd_ne (ne_of_none e hdx)]
    exact e
  have hF : ∀ i, F i = [] := fun i => a.emp i (by simp)
  refine ⟨[.raw (.ref x), d], F, rfl, ⟨by simpa using a.len, fun i d' e => ?_, a.disj, a.emp, fun i hi => by cases hi⟩, ?_⟩
  · match i, e with
    | 0, e => cases e; exact ⟨_, rfl, rfl⟩
    | 1, e =>
      cases e
      obtain ⟨w, h1, h2⟩ := a.arg 0 d rfl
      cases h1
      refine ⟨v, rfl, ?_⟩
      exact h2.imp (fun _ _ q => k _ _ q) fun _ _ q l => ⟨k _ _ q, l⟩
    | n + 2, e => simp at e
  · show match Φ [.non, d] with
      | .ok d' xs => _
      | .raise c xs => _
      | .stuck => False
    have m' : match Φmk Φ [d] with
      | .ok d' xs => ∀ v' H' F', Go (gc C exc []) F H F' H' → XBack C [] [v] H xs H' F F' → Rep H' (Lf H F') d' v' → Q v' H'
      | .raise c xs => ∀ H' F', Go (gc C exc []) F H F' H' → XBack C [] [v] H xs H' F F' → E (.ref (exc c)) none H'
      | .stuck => False := m
    rw [show Φmk Φ [d] = mkR (Φ [.non, d]) from rfl] at m'
    cases q : Φ [.non, d] with
    | ok d' xs => rw [q] at m'; exact m'.elim
    | stuck => rw [q] at m'; exact m'.elim
    | raise c xs =>
      rw [q] at m'
      intro H' F' g b
      refine m' H' F' ⟨fun b o e hm => g.keep b o (k b o e) (fun m i hi => by cases hi), fun b hb => g.dom b ?_, g.same, fun i hi => by cases hi⟩ ⟨fun i hi => (by cases hi), b.disj, b.emp⟩
      cases e : H b with
      | none => exact absurd e hb
      | some o => rw [k b o e]; simp
end
section
variable {X : Cx} {Γ : Cy} {W : WX} {Φ : List D → COut} {kk : Nat} {x : Str} {p pos : Pos} {e : Expr} {sl : List (Option Nat)} {g : En → Out (List D)} {f : Addr} {fd : FuncData} {ps : List Str}
/-- a class whose __init__ is known: what it raises -/
structure MkD (P : Program) (w : World) (K : PySem.W.Frag) (mg : Str → Option Value) (base : Heap) (C : Addr) (exc : Nat → Addr) (x : Str) (kk : Nat) (Φ : List D → COut) : Prop where
  ex : ∃ fa fd ps, FnOk P w K mg base (L2.CX P w) kk fa fd ps (spD C exc 2 [] (Φself Φ)) ∧ mg x = some (.ref C) ∧ Mk K C fa ∧ Binds K fd ps []
theorem ge_mk (Dd : MkD X.prog X.w X.K X.mg X.base Γ.C Γ.exc x kk Φ) (hr : Room (kk + 1) X.A) (tk : Takes X W) (ha : GC X Γ W [e] [none] g) (hg : Gl X x := by rfl)
    (hdb : (x == ("__debug__" : Str)) = false := by decide) (he : starEach [e] X.env = (false, eval e X.env) :: starEach [] X.env := by rfl) (hpl : (backTo pos (starEach [] X.env)).any (·.1) = false := by rfl) :
    GE X Γ W (.Call (.Name x p) [e] [] pos) .all (sCallF (Φmk Φ) [none] g) := by
  obtain ⟨fa, fd, ps, Fn, hm, M, hb⟩ := Dd.ex
  refine ⟨PE.weak (pe_makeS (E := fun σ => WE W σ) M Fn hr hg hm hb (fun σ => passAt tk σ) ha.pa hdb he hpl) ?_⟩
  rintro σ H Q ⟨B, F, env, ok, h⟩
  refine ⟨B, F, env, ok, oE.imp (oE.bind h) fun ds e1 H1 F1 _ _ ⟨ok1, g1, q1⟩ vs rv => ?_⟩
  split at q1
  · rename_i hx
    have st := call_step (W := W) (n := 1) (Q := Q) rfl rfl ok1 rv (oE.imp q1 fun d e2 H2 F2 _ _ q v r => q v (RepK.early (k := .all) g1 r)) fun i _ hi => hasX_def hx i hi
    intro x dx hx1 hdx hne
    match vs, st with
    | [v], st => exact mk_step st x dx hx1 hdx hne
    | [], ⟨ds, F, hl, a, _⟩ => have := a.len; rw [hl] at this; cases this
    | v :: v2 :: vs, ⟨ds, F, hl, a, _⟩ => have := a.len; rw [hl] at this; simp at this
  · exact q1.elim
end
end Ev

set_option Elab.async false
set_option linter.all false
set_option maxRecDepth 100000
set_option maxHeartbeats 4000000
/-! Ev26: own lists that hold new lists; two lists put together, their items no one's. -/
namespace Ev
open PySem L2
section
variable {X : Cx} {Γ : Cy} {W : WX} {pos p p2 : Pos} {a b : Expr} {es : List Expr} {fa fb : Fk} {f g : En → Out D} {gl : En → Out (List D)} {x : Str}
@[simp] def sSetMN (i : Nat) (f : En → Out (List D)) : En → Out Fl := fun e => (f e).bind fun ds e1 => if ds.length ≤ 1000 then .ok .nx (e1.set i (some (.lst ds))) else .stuck
/-- name = [..], all items as good as new -/
theorem gs_setMN (i : Nat) (hN : X.N.Nodup) (he : GA X Γ W es true gl) (hx : i ∉ Γ.X := by (try dsimp only); decide) (hm : i ∈ Γ.M := by (try dsimp only); decide) (hp : i ∉ Γ.P := by (try dsimp only); decide) (hi : X.N[i]? = some x := by rfl) (hl : Loc X.env.scope x := by first | exact Or.inl rfl | exact Or.inr rfl)
    (hs : swapsWith (.List es p2) (some (.Name x p)) pos.line X.env = pure false := by rfl) (hf : X.fn x = true ∨ X.env.scope.names.lookup x = some .local := by first | exact .inl rfl | exact .inr rfl) : GS X Γ W (.Assign [.Name x p] (.List es p2) pos) (sSetMN i gl) := by
  refine ⟨PS.weak (ps_set hN hi hl (pe_lst he.pa) hs hf) ?_⟩
  rintro D σ H ⟨B, F, env, ok, h⟩
  refine ⟨B, F, env, ok, oE.imp (oS.bind h) fun ds e1 H1 F1 _ _ ⟨ok1, g1, h1⟩ vs rv => ?_⟩
  split at h1
  · rename_i hl
    refine ⟨by rw [rv.length]; exact le1000 hl, fun q hq => ?_⟩
    have r : Reps H1 (La F1) ds vs := rv.imp (fun _ _ q => q) fun _ _ q l => ⟨q, l.2⟩
    refine h1 _ _ _ (ok1.own (.inl hm) hp (ok1.xv_ne hx hp) hq trivial fun F' e tr => ?_)
    unfold SlotOk
    rw [if_neg hx, if_pos hm]
    exact ⟨ds, q, vs, rfl, rfl, e, upd_same, tr r⟩
  · exact h1.elim
/-- items that are no one's -/
@[simp] def Fk.loose : Fk → Bool
  | .all => true
  | .var => true
  | .mv => true
  | _ => false
theorem RepK.lstA {k : Fk} {Hs H : Hp} {F : Fp} {ds : List D} {v : V} (hk : k.loose = true) (r : RepK Γ k Hs F H (.lst ds) v) : ∃ a xs, v = .ref a ∧ H a = some (.lst xs) ∧ Reps H (La F) ds xs := by
  cases k with
  | all => obtain ⟨a, xs, e1, e2, _, e3⟩ := r; exact ⟨a, xs, e1, e2, e3.imp (fun _ _ q => q) fun _ _ q l => ⟨q, l.2⟩⟩
  | var => obtain ⟨a, xs, e1, e2, _, e3⟩ := r; exact ⟨a, xs, e1, e2, e3⟩
  | mv => obtain ⟨a, xs, e1, e2, _, e3⟩ := r; exact ⟨a, xs, e1, e2, e3⟩
  | bor => cases hk
  | out => cases hk
@[simp] def sCatV (f g : En → Out D) : En → Out D := fun e => (f e).bind fun x e1 => (g e1).bind fun y e2 => match x, y with
  | .lst xs, .lst ys => if lim (xs.length + ys.length) = true then .ok (.lst (xs ++ ys)) e2 else .stuck
  | _, _ => .stuck
theorem ge_addV (ha : GE X Γ W a fa f) (hb : GE X Γ W b fb g) (h1 : fa.loose = true := by rfl) (h2 : fb.loose = true := by rfl) : GE X Γ W (.BinOp a .Add b pos) .var (sCatV f g) := by
  refine ⟨PE.weak (pe_op op_cat ha.pe hb.pe) ?_⟩
  rintro σ H Q ⟨B, F, env, ok, h⟩
  refine bin_ok ok h fun x y e2 u v H2 F2 ok2 g2 ru rv h3 => ?_
  split at h3
  · split at h3
    · rename_i hl
      obtain ⟨a, xs, rfl, hA, rA⟩ := RepK.lstA h1 ru
      obtain ⟨b, ys, rfl, hB, rB⟩ := RepK.lstA h2 rv
      refine ⟨a, b, xs, ys, rfl, rfl, hA, hB, by rw [rA.length, rB.length]; exact lim_le hl, fun q hq => ?_⟩
      have hF := ok2.notF hq
      exact h3 _ _ (ok2.alloc hq) (go_alloc hq) _ ⟨q, _, rfl, upd_same, hF, (rA.append rB).same (same_upd hq)⟩
    · exact h3.elim
  · exact h3.elim
end
/-! texts of ints -/
@[simp] def oStr : List D → Option D
  | [.int i] => if i.natAbs.log2 < 1920 then some (.str (toString i)) else none
  | _ => none
theorem h_str : HCall (fun xs H Q => ∃ i : Int, xs = [V.int i] ∧ i.natAbs.log2 < 1920 ∧ Q (.str (toString i)) H) oStr .all := fun ds d q Γ al Hs F H vs Q nf rv k => by
  unfold oStr at q
  split at q
  · rename_i i
    split at q
    · rename_i hl
      cases q
      obtain ⟨v, rfl, hv⟩ := rv.one_inv
      exact ⟨i, by rw [show v = V.int i from hv], hl, k _ _ (Same.refl H) (RepK.sc rfl)⟩
    · cases q
  · cases q
end Ev

set_option Elab.async false
set_option linter.all false
set_option maxRecDepth 100000
set_option maxHeartbeats 4000000
/-! Ev27: cutters: fields of an object in a slot, what is done to it. -/
namespace Ev
open PySem L2

/-- what of the text the class has -/
structure CutC (K : PySem.W.Frag) (C : Addr) : Prop where
  cl : Cls K C
  nf : NoAttr K C "fraction"
  ng : NoAttr K C "gone"
  nk : NoAttr K C "kept"
def Tr : Addr → Prop := fun _ => True
/-- an expression that is read only now -/
def tY (Γ : Cy) (W : WX) (f : En → Out D) : TE := fun σ H Q => ∃ B F env, StOk Γ B F σ H env ∧
  oE Γ W B F σ H (f env) fun d _ H' _ => ∀ v, Rep H' Tr d v → Q v H'
structure GY (X : Cx) (Γ : Cy) (W : WX) (e : Expr) (f : En → Out D) : Prop where
  pe : PE X e (tY Γ W f)
@[simp] def sXg (i : Nat) : En → Out D := fun e => match e[i]? with
  | some (some (.cut _ _ g _)) => .ok (.lst (g.map .int)) e
  | _ => .stuck
@[simp] def sXf (i : Nat) : En → Out D := fun e => match e[i]? with
  | some (some (.cut a b _ _)) => .ok (.tup [.int a, .int b]) e
  | _ => .stuck
@[simp] def sXk (i : Nat) : En → Out D := fun e => match e[i]? with
  | some (some (.cut _ _ _ k)) => .ok (.int k) e
  | _ => .stuck
section
variable {X : Cx} {Γ : Cy} {W : WX} {pos p p2 : Pos} {x : Str}
theorem gy_gone (i : Nat) (T : CutC X.K Γ.C) (hx : i ∈ Γ.X := by (try dsimp only); decide) (hN : X.N[i]? = some x := by rfl) (hv : Vis X.env.scope x := by first | exact Or.inl rfl | exact Or.inr (Or.inl rfl) | exact Or.inr (Or.inr rfl)) (hd : (x == ("__debug__" : Str)) = false := by decide)
    (hcd : (x == ("__classdict__" : Str)) = false := by decide) (hb : attributeBase (.Name x p) "gone" X.env (eval (.Name x p) X.env) = eval (.Name x p) X.env := by rfl) :
    GY X Γ W (.Attribute (.Name x p) "gone" pos) (sXg i) := by
  refine ⟨PE.weak (pe_fld (pe_var hN hv hd hcd) hb) ?_⟩
  rintro σ H Q ⟨B, F, env, ok, h⟩
  unfold sXg at h
  split at h
  · rename_i a b g k e
    obtain ⟨v, e1, q, dx, l, t, rfl, hF, n1, n2, n3, hdx, hp, ht, hl⟩ := ok.atX hx e
    exact ⟨_, e1, q, Γ.C, dx, _, .ref l, rfl, hp, T.cl, T.ng, rfl, h.here ok _ ⟨l, _, rfl, hl, trivial, Reps.of_ints _⟩⟩
  · exact h.elim
theorem ge_xfrac (i : Nat) (T : CutC X.K Γ.C) (hx : i ∈ Γ.X := by (try dsimp only); decide) (hN : X.N[i]? = some x := by rfl) (hv : Vis X.env.scope x := by first | exact Or.inl rfl | exact Or.inr (Or.inl rfl) | exact Or.inr (Or.inr rfl)) (hd : (x == ("__debug__" : Str)) = false := by decide)
    (hcd : (x == ("__classdict__" : Str)) = false := by decide) (hb : attributeBase (.Name x p) "fraction" X.env (eval (.Name x p) X.env) = eval (.Name x p) X.env := by rfl) :
    GE X Γ W (.Attribute (.Name x p) "fraction" pos) .all (sXf i) := by
  refine ⟨PE.weak (pe_fld (pe_var hN hv hd hcd) hb) ?_⟩
  rintro σ H Q ⟨B, F, env, ok, h⟩
  unfold sXf at h
  split at h
  · rename_i a b g k e
    obtain ⟨v, e1, q, dx, l, t, rfl, hF, n1, n2, n3, hdx, hp, ht, hl⟩ := ok.atX hx e
    exact ⟨_, e1, q, Γ.C, dx, _, .ref t, rfl, hp, T.cl, T.nf, rfl, h.here ok _ ⟨t, _, rfl, ht, Reps.of_ints [a, b]⟩⟩
  · exact h.elim
theorem ge_xkept (i : Nat) (T : CutC X.K Γ.C) (hx : i ∈ Γ.X := by (try dsimp only); decide) (hN : X.N[i]? = some x := by rfl) (hv : Vis X.env.scope x := by first | exact Or.inl rfl | exact Or.inr (Or.inl rfl) | exact Or.inr (Or.inr rfl)) (hd : (x == ("__debug__" : Str)) = false := by decide)
    (hcd : (x == ("__classdict__" : Str)) = false := by decide) (hb : attributeBase (.Name x p) "kept" X.env (eval (.Name x p) X.env) = eval (.Name x p) X.env := by rfl) :
    GE X Γ W (.Attribute (.Name x p) "kept" pos) .all (sXk i) := by
  refine ⟨PE.weak (pe_fld (pe_var hN hv hd hcd) hb) ?_⟩
  rintro σ H Q ⟨B, F, env, ok, h⟩
  unfold sXk at h
  split at h
  · rename_i a b g k e
    obtain ⟨v, e1, q, dx, l, t, rfl, hF, n1, n2, n3, hdx, hp, ht, hl⟩ := ok.atX hx e
    exact ⟨_, e1, q, Γ.C, dx, _, .int k, rfl, hp, T.cl, T.nk, rfl, h.here ok _ rfl⟩
  · exact h.elim
variable {a b e : Expr} {fa : Fk} {f g : En → Out D}
theorem opY_core {r : R2} {op : D → D → Option D} (hop : HOp r op) {σ : L2.St} {H : Hp} {Q : VK} (h : tE Γ W .all (s2 op f g) σ H Q) : tOp r (tE Γ W fa f) (tY Γ W g) σ H Q := by
  obtain ⟨B, F, env, ok, h⟩ := h
  refine ⟨B, F, env, ok, oE.imp (oE.bind h) fun x e1 H1 F1 _ _ ⟨ok1, g1, h1⟩ u ru => ?_⟩
  refine ⟨B, F1, e1, ok1, oE.imp (oE.bind h1) fun y e2 H2 F2 _ _ ⟨ok2, g2, h2⟩ v rv => ?_⟩
  cases q : op x y with
  | none => rw [q] at h2; exact h2.elim
  | some d =>
    rw [q] at h2
    obtain ⟨hs, hr⟩ := hop x y d q
    exact hr H2 Tr u v Q ((g2.repK ru).x.imp (fun _ _ q => q) fun _ _ q _ => ⟨q, trivial⟩) rv (h2.here ok2 _ (rep_s hs))
theorem ge_cmpY {op : CmpOp} {o : D → D → Option D} (C : CmpOk X op o) (ha : GE X Γ W a fa f) (hb : GY X Γ W b g) (hm : behindInMarks op b = false := by first | exact nomark _ | rfl) : GE X Γ W (.Compare a [op] [b] pos) .all (s2 o f g) := by
  obtain ⟨r, h1, h2⟩ := C.ex
  exact ⟨PE.weak (pe_cmpR h1 ha.pe hb.pe hm) fun _ _ _ h => opY_core h2 h⟩
theorem gt_cmpY {op : CmpOp} {o : D → D → Option D} (C : CmpOk X op o) (ha : GE X Γ W a fa f) (hb : GY X Γ W b g) (hm : behindInMarks op b = false := by first | exact nomark _ | rfl) : GT X Γ W (.Compare a [op] [b] pos) (sB (s2 o f g)) := by
  obtain ⟨r, h1, h2⟩ := C.ex
  exact ⟨PT.weak (pt_cmpR h1 ha.pe hb.pe hm) fun _ _ _ h => opY_core h2 (tB_of h)⟩
/-- a call of a built-in with one such argument -/
theorem callY_core {r : List V → Hp → VK → Prop} {op : List D → Option D} (hop : HCall r op .all) {σ : L2.St} {H : Hp} {Q : VK} (h : tE Γ W .all (sCall op (sCons f sNil)) σ H Q) : tCB r (tCons (tY Γ W f) tNil) σ H Q := by
  obtain ⟨B, F, env, ok, h⟩ := h
  have e0 : sCall op (sCons f sNil) env = (f env).bind fun d e1 => lift (op [d]) e1 := by
    unfold sCall sCons sNil
    cases f env <;> rfl
  rw [e0] at h
  refine ⟨B, F, env, ok, oE.imp (oE.bind h) fun x e1 H1 F1 _ _ ⟨ok1, g1, h1⟩ u ru => ?_⟩
  cases q : op [x] with
  | none => rw [q] at h1; exact h1.elim
  | some d =>
    rw [q] at h1
    refine hop [x] d q ⟨[], [], Γ.exc, Γ.C, []⟩ false H1 (fun _ => []) H1 [u] Q (fun p hp => ⟨hp, fun _ h => by cases h⟩) (Reps.one (ru.imp (fun _ _ q => q) fun _ _ q _ => ⟨q, fun _ h => by cases h⟩)) fun v' H' k rr => ?_
    have rr' : Rep H' (Lf H1 fun _ => []) d v' := rr
    exact h1 H' F1 (ok1.kept k) (go_same k) v' (rr'.imp (fun _ _ q => q) fun c _ q l => ⟨q, g1.free l.1, ok1.notF l.1⟩)
theorem ge_callBY {r : List V → Hp → VK → Prop} {op : List D → Option D} {id : String} (hc : CallR X (.builtin id) r) (hop : HCall r op .all) (ha : GY X Γ W e f) (hm : X.mg x = none) (hv : bootBuiltins x = some (.builtin id)) (hg : Gl X x := by rfl) (hn : x ≠ "__name__" := by decide) (hdb : (x == ("__debug__" : Str)) = false := by decide)
    (he : starEach [e] X.env = (false, eval e X.env) :: starEach [] X.env := by rfl) (hpl : (backTo pos (starEach [] X.env)).any (·.1) = false := by rfl) : GE X Γ W (.Call (.Name x p) [e] [] pos) .all (sCall op (sCons f sNil)) :=
  ⟨PE.weak (pe_callB hc hg hm hv (pa_cons ha.pe pa_nil he) hn hdb he hpl) fun _ _ _ h => callY_core hop h⟩
theorem ge_callTyY {r : List V → Hp → VK → Prop} {op : List D → Option D} {id : String} (hc : CallR X (.type id) r) (hop : HCall r op .all) (ha : GY X Γ W e f) (hm : X.mg x = none) (hv : bootBuiltins x = some (.type id)) (hg : Gl X x := by rfl) (hn : x ≠ "__name__" := by decide) (hdb : (x == ("__debug__" : Str)) = false := by decide)
    (he : starEach [e] X.env = (false, eval e X.env) :: starEach [] X.env := by rfl) (hpl : (backTo pos (starEach [] X.env)).any (·.1) = false := by rfl) : GE X Γ W (.Call (.Name x p) [e] [] pos) .all (sCall op (sCons f sNil)) :=
  ⟨PE.weak (pe_callTy hc hg hm hv (pa_cons ha.pe pa_nil he) hn hdb he hpl) fun _ _ _ h => callY_core hop h⟩
/-- list(..) of a list of ints -/
@[simp] def oListI : List D → Option D
  | [.lst ds] => (ints? ds).map fun ns => .lst (ns.map .int)
  | _ => none
theorem h_listI : HCall (fun xs H Q => ∃ p ys, xs = [.ref p] ∧ (SqL X.K H p ys ∨ SqT X.K H p ys) ∧ ∀ l, H l = none → Q (.ref l) (upd H l (.lst ys))) oListI .all := fun ds d q Γ al Hs F H vs Q nf rv k => by
  unfold oListI at q
  split at q
  · rename_i es
    cases q1 : ints? es with
    | none => rw [q1] at q; cases q
    | some ns =>
      rw [q1] at q
      cases q
      cases ints?_eq q1
      obtain ⟨v, rfl, h⟩ := rv.lbX.one_inv
      obtain ⟨a, xs, rfl, hA, _, rA⟩ := h
      rw [Reps.ints rA] at hA
      exact ⟨a, _, rfl, .inl (SqL.of hA), fun l hl => k _ _ (same_upd hl) ⟨l, _, rfl, upd_same, nf l hl, Reps.of_ints _⟩⟩
  · cases q
@[simp] def oNeNil : D → Option D
  | .lst ds => oNe (.lst ds) (.lst [])
  | _ => none
theorem neNil_core {ta : TE} {r : R2} (hop : HOp r oNe) {σ : L2.St} {H : Hp} {Q : VK} (h : tE Γ W .all (s1 oNeNil f) σ H Q) : tOp r (tY Γ W f) (tLst tNil) σ H Q := by
  obtain ⟨B, F, env, ok, h⟩ := h
  refine ⟨B, F, env, ok, oE.imp (oE.bind h) fun x e1 H1 F1 _ _ ⟨ok1, g1, h1⟩ u ru => ?_⟩
  refine ⟨Nat.zero_le _, fun q hq => ?_⟩
  cases x with
  | lst ds =>
    cases z : oNe (.lst ds) (.lst []) with
    | none =>
      have h2 : oE Γ W B F1 σ H1 (lift (oNe (.lst ds) (.lst [])) e1) _ := h1
      rw [z] at h2; exact h2.elim
    | some d =>
      have h2 : oE Γ W B F1 σ H1 (lift (oNe (.lst ds) (.lst [])) e1) _ := h1
      rw [z] at h2
      obtain ⟨hs, hr⟩ := hop _ _ d z
      exact hr _ Tr _ _ Q (ru.same (same_upd hq)) ⟨q, [], rfl, upd_same, trivial, rfl⟩ (h2 _ _ (ok1.alloc hq) (go_alloc hq) _ (rep_s hs))
  | _ => exact h1.elim
theorem gt_neNil (hu : X.A.units + 64 < cLine) (ha : GY X Γ W a f) (hm : behindInMarks .NotEq (.List [] p2) = false := by first | exact nomark _ | rfl) : GT X Γ W (.Compare a [.NotEq] [.List [] p2] pos) (sB (s1 oNeNil f)) := by
  obtain ⟨r, h1, h2⟩ := (c_ne hu).ex
  exact ⟨PT.weak (pt_cmpR h1 ha.pe (pe_lst pa_nil) hm) fun _ _ _ h => neNil_core (ta := tY Γ W f) h2 (tB_of h)⟩
end

section
variable {Γ : Cy} {B : Base} {F : Fp} {σ : L2.St} {H : Hp} {env : En}
/-- the slot i's object, changed or new -/
theorem StOk.newX (ok : StOk Γ B F σ H env) {i : Nat} {v : V} {d : D} {fp : List Addr} {H' : Hp} (hx : i ∈ Γ.X) (hp : i ∉ Γ.P) (hl : i < env.length) (hxv : ∀ q ∈ B.xv, q.1 = i → σ[i]? = some (some v))
    (hk : ∀ b o, H b = some o → b ∉ F i → H' b = some o) (hd : ∀ b, H b ≠ none → H' b ≠ none) (hf : ∀ b ∈ fp, (b ∈ F i ∨ H b = none) ∧ ∃ o, H' b = some o ∧ Mut (some o)) (so : XOk Γ.C H' fp d v) :
    StOk Γ B (setF F i fp) (σ.set i (some v)) H' (env.set i (some d)) := by
  have neT : ∀ {b : Addr} {zs : FzO}, H b = some zs.1 → b ∉ F i := fun {b zs} q hb => by
    obtain ⟨o, e, m⟩ := ok.trk i b hb
    rw [q] at e; cases e
    exact fz_not zs m
  have rs : ∀ {es : List D} {us : List V}, Reps H (La F) es us → Reps H' (La (setF F i fp)) es us := fun {es us} r => r.imp (fun _ _ q => hk _ _ q (neT q)) fun c _ q l => ⟨hk _ _ q (l i), fun j hj => by
    rcases setF_mem hj with ⟨_, z⟩ | ⟨_, z⟩
    · rcases (hf c z).1 with z | z
      · exact l i z
      · rw [q] at z; cases z
    · exact l j z⟩
  have r1 : ∀ {e : D} {u : V}, Rep H (La F) e u → Rep H' (La (setF F i fp)) e u := fun {e u} r => by
    obtain ⟨x, y, q, z, _⟩ := rs (Reps.one r)
    cases q
    exact z
  refine ⟨by rw [List.length_set, List.length_set]; exact ok.len, fun b h => hd b (ok.dom b h), fun b o h hw => ?_, fun j d' e => ?_, fun j k b hne hb hb' => ?_, fun j b hb => ?_, fun j b hb => ?_, fun q hq => ?_, fun q hq hX => ?_, fun b h => hd b (ok.entD b h), fun j hj b hb => ?_, ok.xvx, fun j hj a e => ok.newv j hj a (by rwa [List.getElem?_set_ne (fun z => hp (by rw [z]; exact hj))] at e)⟩
  · have q := ok.keep b o h hw
    refine hk b o q fun hb => ?_
    obtain ⟨o', e, m⟩ := ok.trk i b hb
    rw [q] at e; cases e
    rcases ok.orig i b hb with z | z
    · exact hw m z
    · rw [h] at z; cases z
  · by_cases hj : i = j
    · subst hj
      rw [List.getElem?_set_self hl] at e
      cases e
      refine ⟨v, List.getElem?_set_self (by rw [ok.len]; exact hl), ?_⟩
      unfold SlotOk
      rw [if_pos hx, setF_eq]
      exact so
    · rw [List.getElem?_set_ne hj] at e
      obtain ⟨w, h1, h2⟩ := ok.slot j d' e
      refine ⟨w, by rw [List.getElem?_set_ne hj]; exact h1, ?_⟩
      have ej : setF F i fp j = F j := setF_ne fun z => hj z.symm
      unfold SlotOk at h2 ⊢
      split
      · rename_i hxj
        rw [if_pos hxj] at h2
        rw [ej]
        refine h2.stay (fun b hb o q => hk b o q fun z => ok.disj i j b hj z hb) fun b o q nm => hk b o q fun z => ?_
        obtain ⟨o', e', m⟩ := ok.trk i b z
        rw [q] at e'; cases e'
        exact nm m
      · rename_i hxj
        rw [if_neg hxj] at h2
        split
        · rename_i hmj
          rw [if_pos hmj] at h2
          obtain ⟨ds, c, zs, e1, e2, e3, e4, e5⟩ := h2
          exact ⟨ds, c, zs, e1, e2, ej.trans e3, hk _ _ e4 fun z => ok.disj i j c hj z (by rw [e3]; simp), rs e5⟩
        · rename_i hmj
          rw [if_neg hmj] at h2
          exact r1 h2
  · rcases setF_mem hb with ⟨rfl, z⟩ | ⟨hj, z⟩
    · rcases setF_mem hb' with ⟨rfl, _⟩ | ⟨_, z'⟩
      · exact hne rfl
      · rcases (hf b z).1 with z | z
        · exact ok.disj _ k b hne z z'
        · exact ok.notF z k z'
    · rcases setF_mem hb' with ⟨rfl, z'⟩ | ⟨_, z'⟩
      · rcases (hf b z').1 with z' | z'
        · exact ok.disj j _ b hj z z'
        · exact ok.notF z' j z
      · exact ok.disj j k b hne z z'
  · rcases setF_mem hb with ⟨_, z⟩ | ⟨_, z⟩
    · rcases (hf b z).1 with z | z
      · exact ok.orig i b z
      · right
        cases q : B.H b with
        | none => rfl
        | some u => exact absurd z (ok.dom b (by rw [q]; simp))
    · exact ok.orig j b z
  · rcases setF_mem hb with ⟨_, z⟩ | ⟨hj, z⟩
    · exact (hf b z).2
    · obtain ⟨o, e, m⟩ := ok.trk j b z
      exact ⟨o, hk b o e fun y => ok.disj i j b (fun q => hj q.symm) y z, m⟩
  · obtain ⟨h1, h2⟩ := ok.xval q hq
    refine ⟨h1, ?_⟩
    by_cases qi : q.1 = i
    · have := hxv q hq qi
      rw [qi] at h2 ⊢
      rw [this] at h2
      cases h2
      exact List.getElem?_set_self (by rw [ok.len]; exact hl)
    · rw [List.getElem?_set_ne fun z => qi z.symm]; exact h2
  · obtain ⟨d', h⟩ := ok.xdef q hq hX
    by_cases qi : q.1 = i
    · exact ⟨d, by rw [qi]; exact List.getElem?_set_self hl⟩
    · exact ⟨d', by rw [List.getElem?_set_ne fun z => qi z.symm]; exact h⟩
  · rcases setF_mem hb with ⟨rfl, _⟩ | ⟨_, z⟩
    · exact absurd hx hj
    · exact ok.entF j hj b z
theorem set_self {σ : L2.St} {i : Nat} {v : V} (h : σ[i]? = some (some v)) : σ.set i (some v) = σ := by
  refine List.ext_getElem? fun j => ?_
  by_cases e : i = j
  · subst e
    rw [List.getElem?_set_self (List.getElem?_eq_some_iff.mp h).1, h]
  · rw [List.getElem?_set_ne e]
end

section
variable {X : Cx} {Γ : Cy} {W : WX} {pos p p2 p3 apos cpos : Pos} {x : Str} {e : Expr} {k : Fk} {fe : En → Out D}
/-- self.gone.append(part) -/
@[simp] def sXapp (i j : Nat) : En → Out Fl := fun e => match e[i]?, e[j]? with
  | some (some (.cut a b g k)), some (some (.int n)) => if lim g.length = true then .ok .nx (e.set i (some (.cut a b (g ++ [n]) k))) else .stuck
  | _, _ => .stuck
theorem gs_xapp {y : Str} {py : Pos} (i j : Nat) (T : CutC X.K Γ.C) (hx : i ∈ Γ.X := by (try dsimp only); decide) (hpp : i ∉ Γ.P := by (try dsimp only); decide) (hxj : j ∉ Γ.X := by (try dsimp only); decide) (hmj : j ∉ Γ.M := by (try dsimp only); decide)
    (hN : X.N[i]? = some x := by rfl) (hv : Vis X.env.scope x := by first | exact Or.inl rfl | exact Or.inr (Or.inl rfl) | exact Or.inr (Or.inr rfl)) (hd : (x == ("__debug__" : Str)) = false := by decide) (hcd : (x == ("__classdict__" : Str)) = false := by decide)
    (hNj : X.N[j]? = some y := by rfl) (hvj : Vis X.env.scope y := by first | exact Or.inl rfl | exact Or.inr (Or.inl rfl) | exact Or.inr (Or.inr rfl)) (hdj : (y == ("__debug__" : Str)) = false := by decide) (hcdj : (y == ("__classdict__" : Str)) = false := by decide)
    (hb : attributeBase (.Name x p) "gone" X.env (eval (.Name x p) X.env) = eval (.Name x p) X.env := by rfl)
    (hs1 : starEach [.Name y py] X.env = (false, eval (.Name y py) X.env) :: starEach [] X.env := by rfl)
    (hPE : ∀ {ta : TE} {t : TA}, PE X (.Attribute (.Name x p) "gone" p2) ta → PA X [.Name y py] t → PE X (.Call (.Attribute (.Attribute (.Name x p) "gone" p2) "append" apos) [.Name y py] [] cpos) (tBM X.K "list" rAppend ta t) := by exact fun h1 h2 => pe_bm PySem.F.plainAttrs_list PySem.F.slot_list_append PySem.F.type_list_append mt_append h1 h2)
    (hs : swapsWith (.Call (.Attribute (.Attribute (.Name x p) "gone" p2) "append" apos) [.Name y py] [] cpos) none pos.line X.env = pure false := by rfl) :
    GS X Γ W (.Expr (.Call (.Attribute (.Attribute (.Name x p) "gone" p2) "append" apos) [.Name y py] [] cpos) pos) (sXapp i j) := by
  refine ⟨PS.weak (ps_expr (hPE (pe_fld (pe_var hN hv hd hcd) hb) (pa_cons (pe_var hNj hvj hdj hcdj) pa_nil hs1)) hs) ?_⟩
  rintro D σ H ⟨B, F, env, ok, h⟩
  unfold sXapp at h
  split at h
  · rename_i a b g k n e0 ej
    split at h
    · rename_i hlm
      obtain ⟨v, e1, q, dx, l, t, rfl, hF, n1, n2, n3, hdx, hp, ht, hl⟩ := ok.atX hx e0
      obtain ⟨u, e2, so⟩ := ok.slot j _ ej
      unfold SlotOk at so
      rw [if_neg hxj, if_neg hmj] at so
      cases (show u = V.int n from so)
      refine ⟨_, e1, q, Γ.C, dx, _, .ref l, rfl, hp, T.cl, T.ng, rfl, .inl ⟨rfl, _, .inl (.inl hl)⟩, _, e2, ?_⟩
      refine ⟨l, _, _, rfl, rfl, hl, by rw [List.length_map]; exact Nat.lt_of_le_of_lt (of_decide_eq_true hlm) (by decide), ?_⟩
      have hil : i < env.length := (List.getElem?_eq_some_iff.mp e0).1
      have hE : g.map V.int ++ [V.int n] = (g ++ [n]).map V.int := by simp
      rw [hE]
      have N := ok.newX (d := .cut a b (g ++ [n]) k) (fp := F i) (H' := upd H l (.lst ((g ++ [n]).map V.int))) hx hpp hil (fun _ _ _ => e1) (fun c o hc hn => ?_) (fun c hc => upd_dom hc) (fun c hc => ⟨.inl hc, ?_⟩) ⟨q, dx, l, t, rfl, hF, n1, n2, n3, ?_, ?_, ?_, upd_same⟩
      · rw [set_self e1] at N
        exact h _ _ _ N
      · rw [upd_ne (fun z => hn (by rw [hF, z]; simp))]; exact hc
      · rw [hF] at hc
        have hc' : c = q ∨ c = l := by simpa using hc
        rcases hc' with rfl | rfl
        · exact ⟨_, (upd_ne n1).trans hp, trivial⟩
        · exact ⟨_, upd_same, trivial⟩
      · rw [upd_ne n3]; exact hdx
      · rw [upd_ne n1]; exact hp
      · exact ht.imp (fun ht => by rw [upd_ne (fun z => by rw [z, hl] at ht; cases ht)]; exact ht) fun ⟨o, ht⟩ => ⟨o, by rw [upd_ne (fun z => by rw [z, hl] at ht; cases ht)]; exact ht⟩
    · exact h.elim
  · exact h.elim
/-- self.gone = self.gone[:-1] -/
@[simp] def sXcut (i : Nat) : En → Out Fl := fun e => match e[i]? with
  | some (some (.cut a b g k)) => .ok .nx (e.set i (some (.cut a b g.dropLast k)))
  | _ => .stuck
theorem cutV_back (xs : List V) : cutV xs none (some (-1)) = xs.dropLast := by
  unfold cutV
  have e : HT.sIx xs.length 0 none = 0 := rfl
  have e2 : HT.sIx xs.length xs.length (some (-1)) = xs.length - 1 := by
    unfold HT.sIx
    simp
    omega
  rw [e, e2, List.drop_zero, Nat.sub_zero, List.dropLast_eq_take]
theorem gs_xcut {p4 p5 p6 p7 : Pos} {j : Nat} (i : Nat) (T : CutC X.K Γ.C) (hx : i ∈ Γ.X := by (try dsimp only); decide) (hpp : i ∉ Γ.P := by (try dsimp only); decide)
    (hN : X.N[i]? = some x := by rfl) (hv : Vis X.env.scope x := by first | exact Or.inl rfl | exact Or.inr (Or.inl rfl) | exact Or.inr (Or.inr rfl)) (hd : (x == ("__debug__" : Str)) = false := by decide) (hcd : (x == ("__classdict__" : Str)) = false := by decide)
    (hb : attributeBase (.Name x p2) "gone" X.env (eval (.Name x p2) X.env) = eval (.Name x p2) X.env := by rfl)
    (hs : swapsWith (.Subscript (.Attribute (.Name x p2) "gone" p3) (.Slice none (some (.UnaryOp .USub (.Constant (.int 1) j p4) p5)) none p6) p7) (some (.Attribute (.Name x p) "gone" apos)) pos.line X.env = pure false := by rfl) :
    GS X Γ W (.Assign [.Attribute (.Name x p) "gone" apos] (.Subscript (.Attribute (.Name x p2) "gone" p3) (.Slice none (some (.UnaryOp .USub (.Constant (.int 1) j p4) p5)) none p6) p7) pos) (sXcut i) := by
  refine ⟨PS.weak (ps_fld (pe_var hN hv hd hcd) (pe_slice sl_all (pe_fld (pe_var hN hv hd hcd) hb) po_none (po_some (pe_un un_neg pe_int))) hs) ?_⟩
  rintro D σ H ⟨B, F, env, ok, h⟩
  unfold sXcut at h
  split at h
  · rename_i a b g k e0
    obtain ⟨v, e1, q, dx, l, t, rfl, hF, n1, n2, n3, hdx, hp, ht, hl⟩ := ok.atX hx e0
    refine ⟨_, e1, q, Γ.C, dx, _, .ref l, rfl, hp, T.cl, T.ng, rfl, 1, rfl, -1, rfl, .inl ⟨l, _, rfl, SqL.of hl, fun l2 hl2 => ?_⟩⟩
    have hne : l2 ≠ q := fun z => by rw [z, hp] at hl2; cases hl2
    have hnd : l2 ≠ dx := fun z => by rw [z, hdx] at hl2; cases hl2
    have hnt : l2 ≠ t := fun z => by rcases ht with ht | ⟨o, ht⟩ <;> (rw [z, ht] at hl2; cases hl2)
    refine ⟨_, e1, q, Γ.C, dx, _, rfl, by rw [upd_ne hne.symm]; exact hp, T.cl, T.ng, by simp, ?_⟩
    have hil : i < env.length := (List.getElem?_eq_some_iff.mp e0).1
    have hE : cutV (g.map V.int) none (some (-1)) = g.dropLast.map V.int := by rw [cutV_back, List.map_dropLast]
    rw [hE]
    have hP : putF "gone" (.ref l2) [(("fraction" : Str), V.ref t), ("gone", .ref l), ("kept", .int k)] = [(("fraction" : Str), V.ref t), (("gone" : Str), .ref l2), (("kept" : Str), .int k)] := rfl
    rw [hP]
    have N := ok.newX (d := .cut a b g.dropLast k) (fp := [q, l2]) (H' := upd (upd H l2 (.lst (g.dropLast.map V.int))) q (.ins Γ.C dx [(("fraction" : Str), V.ref t), (("gone" : Str), .ref l2), (("kept" : Str), .int k)])) hx hpp hil (fun _ _ _ => e1) (fun c o hc hn => ?_) (fun c hc => upd_dom (upd_dom hc)) (fun c hc => ?_) ⟨q, dx, l2, t, rfl, rfl, hne.symm, n2, hnd.symm, ?_, upd_same, ?_, ?_⟩
    · rw [set_self e1] at N
      exact h _ _ _ N
    · rw [upd_ne (fun z => hn (by rw [hF, z]; simp)), upd_ne (ne_of_none hc hl2)]; exact hc
    · have hc' : c = q ∨ c = l2 := by simpa using hc
      rcases hc' with rfl | rfl
      · exact ⟨.inl (by rw [hF]; simp), _, upd_same, trivial⟩
      · exact ⟨.inr hl2, _, (upd_ne hne).trans upd_same, trivial⟩
    · rw [upd_ne n2, upd_ne hnd.symm]; exact hdx
    · exact ht.imp (fun ht => by rw [upd_ne (fun z => by rw [z, hp] at ht; cases ht), upd_ne hnt.symm]; exact ht) fun ⟨o, ht⟩ => ⟨o, by rw [upd_ne (fun z => by rw [z, hp] at ht; cases ht), upd_ne hnt.symm]; exact ht⟩
    · rw [upd_ne hne]; exact upd_same
  · exact h.elim
end
end Ev

set_option Elab.async false
set_option linter.all false
set_option maxRecDepth 100000
set_option maxHeartbeats 4000000
/-! Ev28: methods of cutters. -/
namespace Ev
open PySem L2
section
variable {X : Cx} {CX : CXT} {k : Nat} {f C : Addr} {fd : FuncData} {ps : List Str} {sp : Sp} {E : L2.St → XK} {x m : Str} {p pos apos : Pos} {e o : Expr} {es : List Expr} {ta : TE} {t : TA}
/-- the callee runs, somewhere below -/
theorem run_fnA {A : Around} {pins : List (Addr × Obj)} {σ : L2.St} {H : Hp} {s : Shared} {Q : VK} {us : List Value} {vs : List V} (F : FnOk X.prog X.w X.K X.mg X.base CX k f fd ps sp) (hr : Room k A) (hA : A.frames = X.A.frames) (hb : Binds X.K fd ps []) (hx : PassesAt CX X σ (E σ))
    (I : Inv X pins σ H s) (r : Vals vs us) (h : sp vs H Q (E σ)) : wpAny (model X.prog X.w) A (call (.ref f) us) (EP X pins σ Q) X.xe s := by
  have hl : us.length = ps.length := by rw [← r.length]; exact F.len _ _ _ _ h
  have b := hb s us I.kIn (by rw [List.append_nil]; exact hl)
  rw [List.append_nil] at b
  have e0 : Env0 X.prog X.w X.K X.mg X.base A X.stack s H := by
    have e := I.env0
    exact ⟨by rw [hA]; exact e.frames, e.mod, e.bs, e.bsz, e.funs, e.frf, e.hok, e.bare⟩
  refine wpAny_call (codeAny_mono (F.run A X.stack s H ⟨us, []⟩ us vs Q (E σ) hr e0 b r h) fun r s' hq => ?_)
  cases r with
  | error e => exact hx pins H s e s' I hq
  | ok fl =>
    cases fl with
    | ret u => exact I.after hq
    | next => exact False.elim hq
    | brk => exact False.elim hq
    | cont => exact False.elim hq
/-- o.m(..), what is wanted of an exception by the slots -/
def tMethP (C : Addr) (m : Str) (sp : Sp) (E : L2.St → XK) (ta : TE) (t : TA) : TE := fun σ H Q => ta σ H fun x H1 => ∃ a dx fs, x = .ref a ∧ H1 a = some (.ins C dx fs) ∧ fs.lookup m = none ∧ t σ H1 fun vs H2 => sp (x :: vs) H2 Q (E σ)
theorem pe_methP {pl : Sem Bool} (he : PE X o ta) (c : Cls X.K C) (hm : Meth X.K C m f) (F : FnOk X.prog X.w X.K X.mg X.base CX k f fd ps sp) (hr : Room k X.A) (hb : Binds X.K fd ps []) (hx : ∀ σ, PassesAt CX X σ (E σ)) (ha : PA X (e :: es) t)
    (hst : starEach (e :: es) X.env = (false, eval e X.env) :: starEach es X.env := by rfl) (hpl : (backTo pos (starEach es X.env)).any (·.1) = false := by rfl)
    (ht : eval (.Call (.Attribute o m apos) (e :: es) [] pos) X.env = (do
      let ov ← eval o X.env
      standAt apos.atName
      let (f, first) ← holding [ov] (getMethod ov m pl)
      callWith pos f first (backTo pos (starEach (e :: es) X.env)) (backToKw pos (keywordEach [] X.env))) := by rfl) :
    PE X (.Call (.Attribute o m apos) (e :: es) [] pos) (tMethP C m sp E ta t) := by
  refine ⟨fun pins s σ H Q I h => ?_⟩
  refine PySem.W.methodCall_KW (pl := pl) (thn (he.run pins s σ H _ I h) fun u s1 ⟨x, H1, I1, rx, a, dx, fs, ex, ea, l, q⟩ => ?_) ht
  subst ex
  obtain rfl : u = Value.ref a := rx
  refine getmeth_ok I1 ea c hm l ?_
  refine PySem.W.callWith_K (first := [.ref a]) (h₀ := X.base) I.ok.mod.kin hm.kp (thn (ha.run pos pins s1 σ H1 _ I1 q) fun us s2 ⟨vs, H2, I2, r, q2⟩ => ⟨I2.kIn, ?_⟩) hst hpl
  exact run_fnS (us := .ref a :: us) (vs := .ref a :: vs) F hr hb (hx σ) I2 (.cons rfl r) q2
theorem pe_methP0 {pl : Sem Bool} (he : PE X o ta) (c : Cls X.K C) (hm : Meth X.K C m f) (F : FnOk X.prog X.w X.K X.mg X.base CX k f fd ps sp) (hr : Room k X.A) (hb : Binds X.K fd ps []) (hx : ∀ σ, PassesAt CX X σ (E σ))
    (ht : eval (.Call (.Attribute o m apos) [] [] pos) X.env = (do
      let ov ← eval o X.env
      standAt apos.atName
      let (f, first) ← holding [ov] (getMethod ov m pl)
      callWith pos f first (backTo pos (starEach [] X.env)) (backToKw pos (keywordEach [] X.env))) := by rfl) :
    PE X (.Call (.Attribute o m apos) [] [] pos) (tMethP C m sp E ta tNil) := by
  refine ⟨fun pins s σ H Q I h => ?_⟩
  refine PySem.W.methodCall_KW (pl := pl) (thn (he.run pins s σ H _ I h) fun u s1 ⟨x, H1, I1, rx, a, dx, fs, ex, ea, l, q⟩ => ?_) ht
  subst ex
  obtain rfl : u = Value.ref a := rx
  refine getmeth_ok I1 ea c hm l ?_
  exact PySem.W.callWith_K0 (first := [.ref a]) I1.kIn hm.kp (run_fnS (us := [.ref a]) (vs := [.ref a]) F hr hb (hx σ) I1 (.cons rfl .nil) q)
end

/-- a method that keeps its promise -/
structure MtD (P : Program) (w : World) (K : PySem.W.Frag) (mg : Str → Option Value) (base : Heap) (C : Addr) (exc : Nat → Addr) (m : Str) (kk n : Nat) (xm : List Nat) (Φ : List D → COut) : Prop where
  ex : ∃ fa fd ps, FnOk P w K mg base (L2.CX P w) kk fa fd ps (spD C exc n xm Φ) ∧ Meth K C m fa ∧ Binds K fd ps []
theorem MtD.mono {P : Program} {w : World} {K : PySem.W.Frag} {mg : Str → Option Value} {base : Heap} {C : Addr} {exc : Nat → Addr} {x : Str} {kk k' n : Nat} {xm : List Nat} {Φ : List D → COut} (h : MtD P w K mg base C exc x kk n xm Φ) (hk : kk ≤ k') : MtD P w K mg base C exc x k' n xm Φ := by
  obtain ⟨fa, fd, ps, h1, h2⟩ := h.ex
  exact ⟨fa, fd, ps, h1.mono hk, h2⟩
@[simp] def sMeth (Φ : List D → COut) (i : Nat) (sl : List (Option Nat)) (g : En → Out (List D)) : En → Out D := fun e => match e[i]? with
  | some (some (.cut _ _ _ _)) => (g e).bind fun ds e1 => if hasX e1 (some i :: sl) = true then sDo Φ (some i :: sl) e1 (.non :: ds) else .stuck
  | _ => .stuck
section
variable {X : Cx} {Γ : Cy} {W : WX} {x m : Str} {p pos apos : Pos} {e : Expr} {es : List Expr} {sl : List (Option Nat)} {g : En → Out (List D)} {Φ : List D → COut} {kk n : Nat} {xm : List Nat}
theorem ge_meth {pl : Sem Bool} (i : Nat) (Dm : MtD X.prog X.w X.K X.mg X.base Γ.C Γ.exc m kk n xm Φ) (T : CutC X.K Γ.C) (hr : Room kk X.A) (tk : Takes X W) (ha : GC X Γ W (e :: es) sl g) (hx : i ∈ Γ.X := by (try dsimp only); decide)
    (hxm : xm = xmS (some i :: sl) := by rfl) (hn : n = (some i :: sl).length := by rfl) (hnd : ndS (some i :: sl) = true := by rfl) (hlk : ∀ a b c : V, List.lookup m [(("fraction" : Str), a), (("gone" : Str), b), (("kept" : Str), c)] = none := by intro _ _ _; rfl)
    (hN : X.N[i]? = some x := by rfl) (hv : Vis X.env.scope x := by first | exact Or.inl rfl | exact Or.inr (Or.inl rfl) | exact Or.inr (Or.inr rfl)) (hd : (x == ("__debug__" : Str)) = false := by decide) (hcd : (x == ("__classdict__" : Str)) = false := by decide)
    (hst : starEach (e :: es) X.env = (false, eval e X.env) :: starEach es X.env := by rfl) (hpl : (backTo pos (starEach es X.env)).any (·.1) = false := by rfl)
    (ht : eval (.Call (.Attribute (.Name x p) m apos) (e :: es) [] pos) X.env = (do
      let ov ← eval (.Name x p) X.env
      standAt apos.atName
      let (f, first) ← holding [ov] (getMethod ov m pl)
      callWith pos f first (backTo pos (starEach (e :: es) X.env)) (backToKw pos (keywordEach [] X.env))) := by rfl) :
    GE X Γ W (.Call (.Attribute (.Name x p) m apos) (e :: es) [] pos) .all (sMeth Φ i sl g) := by
  obtain ⟨fa, fd, ps, Fn, hm, hb⟩ := Dm.ex
  subst hxm
  refine ⟨PE.weak (pe_methP (E := fun σ => WE W σ) (pe_var hN hv hd hcd) T.cl hm Fn hr hb (fun σ => passAt tk σ) ha.pa hst hpl ht) ?_⟩
  rintro σ H Q ⟨B, F, env, ok, h⟩
  unfold sMeth at h
  split at h
  · rename_i a0 b0 g0 k0 e0
    obtain ⟨v, e1, q, dx, l, t, rfl, hF, n1, n2, n3, hdx, hp, ht, hl⟩ := ok.atX hx e0
    refine ⟨_, e1, q, dx, _, rfl, hp, hlk _ _ _, B, F, env, ok, oE.imp (oE.bind h) fun ds ee H1 F1 _ _ ⟨ok1, g1, q1⟩ vs rv => ?_⟩
    split at q1
    · rename_i hxx
      refine call_step (W := W) (sl := some i :: sl) (ds := .non :: ds) hnd hn ok1 ⟨hx, e1, rv⟩ (oE.imp q1 fun d e2 H2 F2 _ _ q v r => q v ?_) fun i _ hi => hasX_def hxx i hi
      exact RepK.early (k := .all) g1 r
    · exact q1.elim
  · exact h.elim
theorem ge_meth0 {pl : Sem Bool} (i : Nat) (Dm : MtD X.prog X.w X.K X.mg X.base Γ.C Γ.exc m kk 1 [0] Φ) (T : CutC X.K Γ.C) (hr : Room kk X.A) (tk : Takes X W) (hx : i ∈ Γ.X := by (try dsimp only); decide)
    (hlk : ∀ a b c : V, List.lookup m [(("fraction" : Str), a), (("gone" : Str), b), (("kept" : Str), c)] = none := by intro _ _ _; rfl)
    (hN : X.N[i]? = some x := by rfl) (hv : Vis X.env.scope x := by first | exact Or.inl rfl | exact Or.inr (Or.inl rfl) | exact Or.inr (Or.inr rfl)) (hd : (x == ("__debug__" : Str)) = false := by decide) (hcd : (x == ("__classdict__" : Str)) = false := by decide)
    (ht : eval (.Call (.Attribute (.Name x p) m apos) [] [] pos) X.env = (do
      let ov ← eval (.Name x p) X.env
      standAt apos.atName
      let (f, first) ← holding [ov] (getMethod ov m pl)
      callWith pos f first (backTo pos (starEach [] X.env)) (backToKw pos (keywordEach [] X.env))) := by rfl) :
    GE X Γ W (.Call (.Attribute (.Name x p) m apos) [] [] pos) .all (sMeth Φ i [] sNil) := by
  obtain ⟨fa, fd, ps, Fn, hm, hb⟩ := Dm.ex
  refine ⟨PE.weak (pe_methP0 (E := fun σ => WE W σ) (pe_var hN hv hd hcd) T.cl hm Fn hr hb (fun σ => passAt tk σ) ht) ?_⟩
  rintro σ H Q ⟨B, F, env, ok, h⟩
  unfold sMeth at h
  split at h
  · rename_i a0 b0 g0 k0 e0
    obtain ⟨v, e1, q, dx, l, t, rfl, hF, n1, n2, n3, hdx, hp, ht, hl⟩ := ok.atX hx e0
    refine ⟨_, e1, q, dx, _, rfl, hp, hlk _ _ _, ?_⟩
    have h' : oE Γ W B F σ H (if hasX env [some i] = true then sDo Φ [some i] env [.non] else .stuck) _ := h
    split at h'
    · rename_i hxx
      exact call_step (W := W) (sl := [some i]) (ds := [.non]) (by simp [ndS]) rfl ok ⟨hx, e1, trivial⟩ h' fun i _ hi => hasX_def hxx i hi
    · exact h'.elim
  · exact h.elim

/-- a special method that takes the object alone and raises nothing -/
theorem own_step {i : Nat} {B : Base} {F : Fp} {σ : L2.St} {H : Hp} {env : En} {q : Addr} {Q : VK} (ok : StOk Γ B F σ H env) (hx : i ∈ Γ.X) (e1 : σ[i]? = some (some (.ref q))) (hd : ∃ d, env[i]? = some (some d)) {d : D} {xs : List D} (hΦ : Φ (fillX env [some i] [.non]) = .ok d xs)
    (h : oE Γ W B F σ H (.ok d (putX env [some i] xs)) fun d _ H' F' => ∀ v, RepK Γ .all H F' H' d v → Q v H') : spD Γ.C Γ.exc 1 [0] Φ [.ref q] H Q (fun _ _ _ => False) := by
  refine call_step (W := fun _ _ _ _ => False) (sl := [some i]) (ds := [.non]) (by simp [ndS]) rfl ok ⟨hx, e1, trivial⟩ ?_ fun j hj hi => ?_
  · rw [hΦ]
    exact h
  · have : j = i := by simpa using hi
    rw [this]
    exact hd
@[simp] def sXlen (Φ : List D → COut) (i : Nat) : En → Out D := fun e => match e[i]? with
  | some (some (.cut a b g k)) => match Φ [.cut a b g k] with
    | .ok (.int n) xs => if (decide (0 ≤ n) && rgB n) = true then .ok (.int n) (putX e [some i] xs) else .stuck
    | _ => .stuck
  | _ => .stuck
theorem cx_no {P : Program} {w : World} {o : List PySem.Env} {H : Hp} {s s' : Shared} {e : Value} {X : Cx} (h : L2.CX P w o H s (fun _ _ _ => False) e s') : X.xe e s' := (cx_endG h).elim
theorem ge_xlen (i : Nat) (Dm : MtD X.prog X.w X.K X.mg X.base Γ.C Γ.exc "__len__" kk 1 [0] Φ) (hr : Room (kk + 1) X.A) (hm : X.mg "len" = none) (hx : i ∈ Γ.X := by (try dsimp only); decide)
    (hN : X.N[i]? = some x := by rfl) (hv : Vis X.env.scope x := by first | exact Or.inl rfl | exact Or.inr (Or.inl rfl) | exact Or.inr (Or.inr rfl)) (hg : Gl X "len" := by rfl) (hd : (x == ("__debug__" : Str)) = false := by decide) (hcd : (x == ("__classdict__" : Str)) = false := by decide)
    (he : starEach [.Name x p] X.env = (false, eval (.Name x p) X.env) :: starEach [] X.env := by rfl) (hpl : (backTo pos (starEach [] X.env)).any (·.1) = false := by rfl) :
    GE X Γ W (.Call (.Name "len" apos) [.Name x p] [] pos) .all (sXlen Φ i) := by
  obtain ⟨fa, fd, ps, Fn, hmt, hb⟩ := Dm.ex
  have hc : CallR X (.builtin "len") (fun xs H Q => ∃ a dx fs, xs = [.ref a] ∧ H a = some (.ins Γ.C dx fs) ∧ spD Γ.C Γ.exc 1 [0] Φ [.ref a] H (fun v H' => ∃ n : Int, v = .int n ∧ 0 ≤ n ∧ n < 4611686018427387904 ∧ Q (.int n) H') (fun _ _ _ => False)) := by
    intro pins s σ H xs us Q I r q
    obtain ⟨a, dx, fs, rfl, ha, q⟩ := q
    rw [Vals.ref1 r]
    obtain ⟨mA, J, _⟩ := ins_get I.hok ha
    obtain ⟨od, J, _⟩ := J.look
    obtain ⟨mm, hF⟩ := I.fr
    refine PySem.W.len_K hF I.ok.mod.kin J hmt.at_ hmt.fn ?_
    refine wpAny_mono (run_fnA (E := fun _ _ _ _ => False) (us := [Value.ref a]) (vs := [V.ref a]) Fn hr.in1 rfl hb (fun pins H s e s' I c => cx_no c) I (.cons rfl .nil) q) (fun u s' z => ?_) fun _ _ y => y
    obtain ⟨v, H', I', rv, n, rfl, h0, h1, q'⟩ := z
    obtain ⟨t, rfl⟩ := (show ∃ t, u = Value.int n t from rv)
    refine ⟨⟨h0, by have e : (2 : Int) ^ 63 = 9223372036854775808 := by decide
                    rw [e]; omega⟩, .int n, H', I'.tok _, ⟨_, rfl⟩, q'⟩
  refine ⟨PE.weak (pe_callB hc hg hm (by decide +kernel) (pa_cons (pe_var hN hv hd hcd) pa_nil he) (by decide) (by decide) he hpl) ?_⟩
  rintro σ H Q ⟨B, F, env, ok, h⟩
  unfold sXlen at h
  split at h
  · rename_i a0 b0 g0 k0 e0
    obtain ⟨v, e1, q, dx, l, t, rfl, hF, n1, n2, n3, hdx, hp, ht, hl⟩ := ok.atX hx e0
    refine ⟨_, e1, q, dx, _, rfl, hp, ?_⟩
    split at h
    · rename_i n xs hΦ
      split at h
      · rename_i hnn
        rw [Bool.and_eq_true] at hnn
        have hf : Φ (fillX env [some i] [.non]) = .ok (.int n) xs := by simp only [fillX, e0]; exact hΦ
        refine own_step (W := W) ok hx e1 ⟨_, e0⟩ hf fun H' F' ok' g' v r => ?_
        cases (show v = V.int n from r)
        exact ⟨n, rfl, of_decide_eq_true hnn.1, (rgB_ok hnn.2).2, h H' F' ok' g' _ r⟩
      · exact h.elim
    · exact h.elim
  · exact h.elim
end
end Ev

set_option Elab.async false
set_option linter.all false
set_option maxRecDepth 100000
set_option maxHeartbeats 4000000
/-! Ev29: how cutters are made; what is left; duplicates. -/
namespace Ev
open PySem L2
section
variable {K : PySem.W.Frag} {C : Addr} {exc : Nat → Addr} {Φ : List D → COut} {vs : List V} {H : Hp} {Q : VK} {E : XK}
theorem Same.trans' {H1 H2 H3 : Hp} (a : Same H1 H2) (b : Same H2 H3) : Same H1 H3 := fun c o e => b c o (a c o e)
/-- a def that changes nothing -/
theorem spD_pure {n : Nat} {ds : List D} (hl : ds.length = n) (r : Reps H Tr ds vs) (h : match Φ ds with
      | .ok d _ => ∀ v H', Same H H' → Rep H' (fun a => H a = none) d v → Q v H'
      | .raise c _ => ∀ H', Same H H' → E (.ref (exc c)) none H'
      | .stuck => False) : spD C exc n [] Φ vs H Q E := by
  refine ⟨ds, (fun _ => ([] : List Addr)), hl, ⟨r.length, fun i d e => ?_, (by intro i j b _ hb; cases hb), fun _ _ => rfl, (by intro i hi; cases hi)⟩, ?_⟩
  · obtain ⟨v, h1, h2⟩ := r.get e
    refine ⟨v, h1, ?_⟩
    rw [if_neg (by simp)]
    exact h2.imp (fun _ _ q => q) fun _ _ q _ => ⟨q, fun _ h => by cases h⟩
  · cases q : Φ ds with
    | ok d xs =>
      rw [q] at h
      exact fun v H' F' g _ rv => h v H' (fun b o e => g.keep b o e fun _ i hi => (by cases hi)) (rv.imp (fun _ _ q => q) fun _ _ q l => ⟨q, l.1⟩)
    | raise c xs =>
      rw [q] at h
      exact fun H' F' g _ => h H' fun b o e => g.keep b o e fun _ i hi => by cases hi
    | stuck => rw [q] at h; exact h

/-! what is left -/
def leftRun (Φ : List D → COut) : List Int → D → Option D
  | [], r => some r
  | p :: ps, r => match Φ [r, .int p] with
    | .ok r' _ => if lfree r' = true then leftRun Φ ps r' else none
    | _ => none
def Φ_leftG (Φ : List D → COut) : List D → COut
  | [.cut a b g k] => match leftRun Φ g (.tup [.int a, .int b]) with
    | some r => .ok r [.cut a b g k]
    | none => .stuck
  | _ => .stuck
theorem one_arg {v : V} (h : vs.length = 1) (h2 : vs[0]? = some v) : vs = [v] := by
  match vs, h with
  | [u], _ => simp at h2; rw [h2]
theorem left_read (T : CutC K C) (h : spD C exc 1 [0] (Φ_leftG Φ) vs H Q E) :
    tSeq (tAsg (tFld K (tVar 0) "fraction") (gName 1)) (tSeq (tFor (iSeq K (tFld K (tVar 0) "gone")) (gName 2) (tAsg (tCallS (spD C exc 2 [] Φ) (fun σ => WE (WD E) σ) (tCons (tVar 1) (tCons (tVar 2) tNil))) (gName 1))) (tRet (tVar 1)))
      { nx := fun _ H' => Q .non H', rt := Q } (L2.start ["self", "rest", "part"] vs) H := by
  obtain ⟨ds, F, hl, args, hΦ⟩ := h
  match ds, hl, args, hΦ with
  | [d], _, args, hΦ =>
    cases d with
    | cut a b g k =>
      obtain ⟨v, hv, xo⟩ := args.arg 0 _ rfl
      rw [if_pos (by simp)] at xo
      obtain ⟨p, dx, l, t, rfl, hF, n1, n2, n3, hdx, hp, ht, hl⟩ := id xo
      cases one_arg (by rw [args.len]; rfl) hv
      have hΦ' : match (match leftRun Φ g (.tup [.int a, .int b]) with
        | some r => COut.ok r [.cut a b g k]
        | none => .stuck) with
        | .ok d xs => ∀ v H' F', Go (gc C exc [0]) F H F' H' → XBack C [0] [.ref p] H xs H' F F' → Rep H' (Lf H F') d v → Q v H'
        | .raise c xs => ∀ H' F', Go (gc C exc [0]) F H F' H' → XBack C [0] [.ref p] H xs H' F F' → E (.ref (exc c)) none H'
        | .stuck => False := hΦ
      cases q : leftRun Φ g (.tup [.int a, .int b]) with
      | none => rw [q] at hΦ'; exact hΦ'.elim
      | some r =>
        rw [q] at hΦ'
        refine ⟨.ref p, rfl, p, C, dx, _, .ref t, rfl, hp, T.cl, T.nf, rfl, ?_⟩
        refine ⟨.ref p, rfl, p, C, dx, _, .ref l, rfl, hp, T.cl, T.ng, rfl, l, rfl, .inl ⟨⟨_, SqL.of hl⟩, ?_⟩⟩
        refine for_it walk_list (fun i σ2 H2 => ∃ u d o, σ2 = [some (.ref p), some u, o] ∧ Same H H2 ∧ Rep H2 Tr d u ∧ lfree d = true ∧ leftRun Φ (g.drop i) d = some r) ⟨.ref t, .tup [.int a, .int b], none, rfl, Same.refl H, ⟨t, _, rfl, ht, Reps.of_ints [a, b]⟩, rfl, by rw [List.drop_zero]; exact q⟩
          (fun i σ2 H2 _ ⟨u, d, o, _, sm, _⟩ => SqL.of (sm _ _ hl)) (fun i x σ2 H2 H3 hi pv y => ?_) (fun σ2 H2 pv => ?_)
        · obtain ⟨u, d, o, rfl, sm, ru, lf, hq⟩ := pv
          obtain ⟨rfl, hx⟩ := y
          rw [List.length_map] at hi
          rw [List.getElem?_map, List.getElem?_eq_getElem hi] at hx
          cases hx
          rw [List.drop_eq_getElem_cons hi] at hq
          unfold leftRun at hq
          refine ⟨u, rfl, .int g[i], rfl, spD_pure (ds := [d, .int g[i]]) rfl (Reps.cons ru (Reps.one rfl)) ?_⟩
          cases z : Φ [d, .int g[i]] with
          | stuck => rw [z] at hq; cases hq
          | raise c xs => rw [z] at hq; cases hq
          | ok r' xs =>
            rw [z] at hq
            simp only at hq
            split at hq
            · rename_i hlf
              exact fun v H' sm' rv => ⟨v, r', _, rfl, Same.trans' sm sm', rv.lf hlf, hlf, hq⟩
            · cases hq
        · obtain ⟨u, d, o, rfl, sm, ru, lf, hq⟩ := pv
          rw [List.length_map, List.drop_length] at hq
          cases hq
          refine ⟨u, rfl, hΦ' u H2 F ⟨fun b o e _ => sm b o e, fun b hb => ?_, fun _ _ => rfl, fun i hi b hb => .inl ⟨i, hi, hb⟩⟩ ⟨fun i hi => ?_, args.disj, args.emp⟩ (ru.lf lf)⟩
          · cases e : H b with
            | none => exact absurd e hb
            | some o => rw [sm b o e]; simp
          · cases (show i = 0 by simpa using hi)
            exact ⟨_, _, rfl, rfl, xo.keep sm⟩
    | _ => exact hΦ.elim

/-! __init__ -/
def spI (C : Addr) (exc : Nat → Addr) (Φ : List D → COut) : Sp := fun vs H Q E => ∃ (p dx : Addr) (v : V) (d : D), vs = [.ref p, v] ∧ H p = some (.ins C dx []) ∧ H dx = some (.own p) ∧ dx ≠ p ∧ Rep H Tr d v ∧ match Φ [d] with
  | .ok _ _ => ∀ (H' : Hp) (l : Addr), (∀ b o, H b = some o → b ≠ p → H' b = some o) → H l = none → H' l = some (.lst []) → H' p = some (.ins C dx [("fraction", v), ("gone", .ref l), ("kept", .int 0)]) → Q .non H'
  | .raise c _ => ∀ H', Same H H' → E (.ref (exc c)) none H'
  | .stuck => False
theorem init_read (T : CutC K C) (h : spI C exc Φ vs H Q E) :
    tSeq (tDrop (tCallS (spD C exc 1 [] Φ) (fun σ => WE (WD E) σ) (tCons (tVar 1) tNil))) (tSeq (sFld K (tVar 0) (tVar 1) "fraction") (tSeq (sFld K (tVar 0) (tLst tNil) "gone") (sFld K (tVar 0) (tC (.int 0)) "kept")))
      { nx := fun _ H' => Q .non H', rt := Q } (L2.start ["self", "fraction"] vs) H := by
  obtain ⟨p, dx, v, d, rfl, hp, hdx, hne, rd, hΦ⟩ := h
  refine ⟨v, rfl, spD_pure (ds := [d]) rfl (Reps.one rd) ?_⟩
  cases q : Φ [d] with
  | stuck => rw [q] at hΦ; exact hΦ
  | raise c xs => rw [q] at hΦ; exact hΦ
  | ok r xs =>
    rw [q] at hΦ
    intro w H1 sm rw'
    have hp1 := sm _ _ hp
    refine ⟨v, rfl, .ref p, rfl, p, C, dx, _, rfl, hp1, T.cl, T.nf, by simp, ?_⟩
    refine ⟨Nat.zero_le _, fun l hl => ?_⟩
    have hlp : l ≠ p := fun z => by rw [z, upd_same] at hl; cases hl
    have hlH : H l = none := by
      rw [upd_ne hlp] at hl
      cases e : H l with
      | none => rfl
      | some o => rw [sm l o e] at hl; cases hl
    refine ⟨.ref p, rfl, p, C, dx, _, rfl, by rw [upd_ne hlp.symm]; exact upd_same, T.cl, T.ng, by have := length_putF "fraction" v []; simp at this; omega, ?_⟩
    refine ⟨.ref p, rfl, p, C, dx, _, rfl, upd_same, T.cl, T.nk, by have := length_putF "fraction" v []; have := length_putF "gone" (V.ref l) (putF "fraction" v []); simp at *; omega, ?_⟩
    refine hΦ _ l (fun b o e hb => ?_) hlH ?_ upd_same
    · rw [upd_ne hb, upd_ne hb, upd_ne (ne_of_none (show upd H1 p _ b = some o by rw [upd_ne hb]; exact sm b o e) hl), upd_ne hb]
      exact sm b o e
    · rw [upd_ne hlp, upd_ne hlp]; exact upd_same

/-! duplicate -/
def spDup (C : Addr) (Φ : List D → COut) : Sp := fun vs H Q _ => ∃ (p dx l t : Addr) (a b : Int) (g : List Int) (k : Int), vs = [.ref p] ∧ H p = some (.ins C dx [("fraction", .ref t), ("gone", .ref l), ("kept", .int k)]) ∧ Rd H t (.tup [.int a, .int b]) ∧ H l = some (.lst (g.map V.int)) ∧
  (∃ d xs, Φ [.tup [.int a, .int b]] = .ok d xs) ∧ ∀ (H' : Hp) (q dy m : Addr), Same H H' → H q = none → H m = none → q ≠ m → dy ≠ q → dy ≠ m → H' dy = some (.own q) → H' q = some (.ins C dy [("fraction", .ref t), ("gone", .ref m), ("kept", .int g.length)]) → H' m = some (.lst (g.map V.int)) → Q (.ref q) H'
theorem dup_read (T : CutC K C) (h : spDup C Φ vs H Q E) :
    tSeq (tAsg (tMakeS C (spI C exc Φ) (fun σ => WE (WD E) σ) (tCons (tFld K (tVar 0) "fraction") tNil)) (gName 1)) (tSeq (sFld K (tVar 1) (tCB (fun xs H Q => ∃ p ys, xs = [.ref p] ∧ (SqL K H p ys ∨ SqT K H p ys) ∧ ∀ l, H l = none → Q (.ref l) (upd H l (.lst ys))) (tCons (tFld K (tVar 0) "gone") tNil)) "gone")
      (tSeq (sFld K (tVar 1) (tCB (fun xs H Q => ∃ x n, xs = [x] ∧ LenV K x H n ∧ Q (.int n) H) (tCons (tFld K (tVar 0) "gone") tNil)) "kept") (tRet (tVar 1))))
      { nx := fun _ H' => Q .non H', rt := Q } (L2.start ["self", "other"] vs) H := by
  obtain ⟨p, dx, l, t, a, b, g, k, rfl, hp, ht, hl, ⟨d, xs, hc⟩, hQ⟩ := h
  refine ⟨.ref p, rfl, p, C, dx, _, .ref t, rfl, hp, T.cl, T.nf, rfl, fun q dy hq hdy hne => ?_⟩
  have hqp : q ≠ p := fun z => by rw [z, hp] at hq; cases hq
  have hql : q ≠ l := fun z => by rw [z, hl] at hq; cases hq
  have k1 : ∀ c o, H c = some o → upd (upd H dy (.own q)) q (.ins C dy []) c = some o := fun c o e => by rw [upd_ne (ne_of_none e hq), upd_ne (ne_of_none e hdy)]; exact e
  refine ⟨q, dy, .ref t, .tup [.int a, .int b], rfl, upd_same, by rw [upd_ne hne]; exact upd_same, hne, ⟨t, _, rfl, Rd.keep k1 ht, Reps.of_ints [a, b]⟩, ?_⟩
  rw [hc]
  intro H1 m0 kp hm0 hm1 hq1
  refine ⟨rfl, ?_⟩
  have k2 : ∀ c o, H c = some o → H1 c = some o := fun c o e => kp c o (k1 c o e) (ne_of_none e hq)
  have hdy1 : H1 dy = some (.own q) := kp dy _ (by rw [upd_ne hne]; exact upd_same) hne
  refine ⟨.ref p, rfl, p, C, dx, _, .ref l, rfl, k2 _ _ hp, T.cl, T.ng, rfl, l, _, rfl, .inl (SqL.of (k2 _ _ hl)), fun m hm => ?_⟩
  have hmq : m ≠ q := fun z => by rw [z, hq1] at hm; cases hm
  have hmd : dy ≠ m := fun z => by rw [← z, hdy1] at hm; cases hm
  have hmH : H m = none := by
    cases e : H m with
    | none => rfl
    | some o => rw [k2 m o e] at hm; cases hm
  refine ⟨.ref q, rfl, q, C, dy, _, rfl, by rw [upd_ne hmq.symm]; exact hq1, T.cl, T.ng, by simp, ?_⟩
  have k3 : ∀ c o, H c = some o → upd (upd H1 m (.lst (g.map V.int))) q (.ins C dy (putF "gone" (.ref m) [(("fraction" : Str), .ref t), (("gone" : Str), .ref m0), (("kept" : Str), .int 0)])) c = some o := fun c o e => by rw [upd_ne (ne_of_none e hq), upd_ne (ne_of_none e hmH)]; exact k2 c o e
  refine ⟨.ref p, rfl, p, C, dx, _, .ref l, rfl, k3 _ _ hp, T.cl, T.ng, rfl, .ref l, g.length, rfl, .inl ⟨_, SqL.of (k3 _ _ hl), by rw [List.length_map]⟩, ?_⟩
  refine ⟨.ref q, rfl, q, C, dy, _, rfl, upd_same, T.cl, T.nk, by have := length_putF "gone" (V.ref m) [(("fraction" : Str), .ref t), (("gone" : Str), .ref m0), (("kept" : Str), .int 0)]; simp at this; omega, ?_⟩
  refine ⟨.ref q, rfl, hQ _ q dy m (fun c o e => ?_) hq hmH hmq.symm hne hmd ?_ upd_same ?_⟩
  · rw [upd_ne (ne_of_none e hq)]; exact k3 c o e
  · rw [upd_ne hne, upd_ne hne, upd_ne hmd]; exact hdy1
  · rw [upd_ne hmq, upd_ne hmq]; exact upd_same
end
end Ev

set_option Elab.async false
set_option linter.all false
set_option maxRecDepth 100000
set_option maxHeartbeats 4000000
/-! Ev30: name = Cutter(..), name = other.duplicate(), cutters compared. -/
namespace Ev
open PySem L2
structure MkX (P : Program) (w : World) (K : PySem.W.Frag) (mg : Str → Option Value) (base : Heap) (C : Addr) (exc : Nat → Addr) (x : Str) (kk : Nat) (Φ : List D → COut) : Prop where
  ex : ∃ fa fd ps, FnOk P w K mg base (L2.CX P w) kk fa fd ps (spI C exc Φ) ∧ mg x = some (.ref C) ∧ Mk K C fa ∧ Binds K fd ps []
structure MtS (P : Program) (w : World) (K : PySem.W.Frag) (mg : Str → Option Value) (base : Heap) (C : Addr) (m : Str) (kk : Nat) (sp : Sp) : Prop where
  ex : ∃ fa fd ps, FnOk P w K mg base (L2.CX P w) kk fa fd ps sp ∧ Meth K C m fa ∧ Binds K fd ps []
@[simp] def sMkX (Φ : List D → COut) (i : Nat) (f : En → Out D) : En → Out Fl := fun e => (f e).bind fun d e1 => match d, e1[i]? with
  | .tup [.int a, .int b], some none => (match Φ [.tup [.int a, .int b]] with
    | .ok _ _ => .ok .nx (e1.set i (some (.cut a b [] 0)))
    | .raise c _ => .raise c e1
    | .stuck => .stuck)
  | _, _ => .stuck
@[simp] def sDupX (Φ : List D → COut) (i j : Nat) : En → Out Fl := fun e => match e[j]?, e[i]? with
  | some (some (.cut a b g _)), some none => (match Φ [.tup [.int a, .int b]] with
    | .ok _ _ => .ok .nx (e.set i (some (.cut a b g g.length)))
    | _ => .stuck)
  | _, _ => .stuck
section
variable {X : Cx} {Γ : Cy} {W : WX} {x y m cn : Str} {p py pos apos cpos : Pos} {e : Expr} {k : Fk} {fe : En → Out D} {Φ : List D → COut} {kk : Nat}
theorem gs_mkX (i : Nat) (Dd : MkX X.prog X.w X.K X.mg X.base Γ.C Γ.exc cn kk Φ) (hr : Room (kk + 1) X.A) (tk : Takes X W) (hN : X.N.Nodup) (he : GE X Γ W e k fe) (hx : i ∈ Γ.X := by (try dsimp only); decide) (hpp : i ∉ Γ.P := by (try dsimp only); decide)
    (hi : X.N[i]? = some y := by rfl) (hl : Loc X.env.scope y := by first | exact Or.inl rfl | exact Or.inr rfl)
    (hs : swapsWith (.Call (.Name cn p) [e] [] cpos) (some (.Name y py)) pos.line X.env = pure false := by rfl) (hf : X.fn y = true ∨ X.env.scope.names.lookup y = some .local := by first | exact .inl rfl | exact .inr rfl)
    (hg : Gl X cn := by rfl) (hdb : (cn == ("__debug__" : Str)) = false := by decide) (hst : starEach [e] X.env = (false, eval e X.env) :: starEach [] X.env := by rfl) (hpl : (backTo cpos (starEach [] X.env)).any (·.1) = false := by rfl) :
    GS X Γ W (.Assign [.Name y py] (.Call (.Name cn p) [e] [] cpos) pos) (sMkX Φ i fe) := by
  obtain ⟨fa, fd, ps, Fn, hm, M, hb⟩ := Dd.ex
  refine ⟨PS.weak (ps_set hN hi hl (pe_makeS (E := fun σ => WE W σ) M Fn hr hg hm hb (fun σ => passAt tk σ) (pa_cons he.pe pa_nil hst) hdb hst hpl) hs hf) ?_⟩
  rintro D σ H ⟨B, F, env, ok, h⟩
  refine ⟨B, F, env, ok, oE.imp (oS.bind h) fun d e1 H1 F1 _ _ ⟨ok1, g1, h1⟩ u ru => ?_⟩
  intro q dy hq hdy hne
  split at h1
  · rename_i a b e0 _
    obtain ⟨t, xs, rfl, ht, rt⟩ := ru.x
    have ex : xs = [V.int a, V.int b] := Reps.ints (ns := [a, b]) rt
    subst ex
    have k1 : ∀ c o, H1 c = some o → upd (upd H1 dy (.own q)) q (.ins Γ.C dy []) c = some o := fun c o e => by rw [upd_ne (ne_of_none e hq), upd_ne (ne_of_none e hdy)]; exact e
    refine ⟨q, dy, .ref t, .tup [.int a, .int b], rfl, upd_same, by rw [upd_ne hne]; exact upd_same, hne, ⟨t, _, rfl, Rd.keep k1 ht, Reps.of_ints [a, b]⟩, ?_⟩
    cases z : Φ [.tup [.int a, .int b]] with
    | stuck => rw [z] at h1; exact h1.elim
    | raise c ys =>
      rw [z] at h1
      exact fun H' sm => h1 σ H' F1 (ok1.kept fun b o e => sm b o (k1 b o e))
    | ok d' ys =>
      rw [z] at h1
      intro H' m kp hm0 hm1 hq1
      have hqm : q ≠ m := fun z => by rw [← z, upd_same] at hm0; cases hm0
      have hdm : dy ≠ m := fun z => by rw [← z, upd_ne hne, upd_same] at hm0; cases hm0
      have hmH : H1 m = none := by
        cases e : H1 m with
        | none => rfl
        | some o => rw [k1 m o e] at hm0; cases hm0
      have k2 : ∀ c o, H1 c = some o → H' c = some o := fun c o e => kp c o (k1 c o e) (ne_of_none e hq)
      have hil : i < e1.length := (List.getElem?_eq_some_iff.mp e0).1
      refine ⟨rfl, h1 _ _ _ (ok1.newX (d := .cut a b [] 0) (fp := [q, m]) hx hpp hil (fun r hr' er => ?_) (fun c o e _ => k2 c o e) (fun c hc => ?_) (fun c hc => ?_) ⟨q, dy, m, t, rfl, rfl, hqm, hne, hdm, kp dy _ (by rw [upd_ne hne]; exact upd_same) hne, hq1, Rd.keep k2 ht, hm1⟩)⟩
      · obtain ⟨d', hd'⟩ := ok1.xdef r hr' (er ▸ hx)
        rw [er, e0] at hd'
        cases hd'
      · cases e : H1 c with
        | none => exact absurd e hc
        | some o => rw [k2 c o e]; simp
      · have hc' : c = q ∨ c = m := by simpa using hc
        rcases hc' with rfl | rfl
        · exact ⟨.inr hq, _, hq1, trivial⟩
        · exact ⟨.inr hmH, _, hm1, trivial⟩
  · exact h1.elim
theorem gs_dupX {pl : Sem Bool} (i j : Nat) (Dd : MtS X.prog X.w X.K X.mg X.base Γ.C m kk (spDup Γ.C Φ)) (T : CutC X.K Γ.C) (hr : Room kk X.A) (tk : Takes X W) (hN : X.N.Nodup) (hx : i ∈ Γ.X := by (try dsimp only); decide) (hpp : i ∉ Γ.P := by (try dsimp only); decide) (hxj : j ∈ Γ.X := by (try dsimp only); decide)
    (hlk : ∀ a b c : V, List.lookup m [(("fraction" : Str), a), (("gone" : Str), b), (("kept" : Str), c)] = none := by intro _ _ _; rfl)
    (hi : X.N[i]? = some y := by rfl) (hl : Loc X.env.scope y := by first | exact Or.inl rfl | exact Or.inr rfl)
    (hj : X.N[j]? = some x := by rfl) (hv : Vis X.env.scope x := by first | exact Or.inl rfl | exact Or.inr (Or.inl rfl) | exact Or.inr (Or.inr rfl)) (hd : (x == ("__debug__" : Str)) = false := by decide) (hcd : (x == ("__classdict__" : Str)) = false := by decide)
    (hs : swapsWith (.Call (.Attribute (.Name x p) m apos) [] [] cpos) (some (.Name y py)) pos.line X.env = pure false := by rfl) (hf : X.fn y = true ∨ X.env.scope.names.lookup y = some .local := by first | exact .inl rfl | exact .inr rfl)
    (ht : eval (.Call (.Attribute (.Name x p) m apos) [] [] cpos) X.env = (do
      let ov ← eval (.Name x p) X.env
      standAt apos.atName
      let (f, first) ← holding [ov] (getMethod ov m pl)
      callWith cpos f first (backTo cpos (starEach [] X.env)) (backToKw cpos (keywordEach [] X.env))) := by rfl) :
    GS X Γ W (.Assign [.Name y py] (.Call (.Attribute (.Name x p) m apos) [] [] cpos) pos) (sDupX Φ i j) := by
  obtain ⟨fa, fd, ps, Fn, hm, hb⟩ := Dd.ex
  refine ⟨PS.weak (ps_set hN hi hl (pe_methP0 (E := fun σ => WE W σ) (pe_var hj hv hd hcd) T.cl hm Fn hr hb (fun σ => passAt tk σ) ht) hs hf) ?_⟩
  rintro D σ H ⟨B, F, env, ok, h⟩
  unfold sDupX at h
  split at h
  · rename_i a b g k0 ej e0
    obtain ⟨v, e1, q0, dx, l, t, rfl, hF, n1, n2, n3, hdx, hp, ht, hl⟩ := ok.atX hxj ej
    cases z : Φ [.tup [.int a, .int b]] with
    | stuck => rw [z] at h; exact h.elim
    | raise c ys => rw [z] at h; exact h.elim
    | ok d' ys =>
      rw [z] at h
      refine ⟨_, e1, q0, dx, _, rfl, hp, hlk _ _ _, q0, dx, l, t, a, b, g, k0, rfl, hp, ht, hl, ⟨_, _, z⟩, fun H' q dy m' sm hq hm0 hqm hne hdm hdy hq1 hm1 => ?_⟩
      have hil : i < env.length := (List.getElem?_eq_some_iff.mp e0).1
      refine h _ _ _ (ok.newX (d := .cut a b g g.length) (fp := [q, m']) hx hpp hil (fun r hr' er => ?_) (fun c o e _ => sm c o e) (fun c hc => ?_) (fun c hc => ?_) ⟨q, dy, m', t, rfl, rfl, hqm, hne, hdm, hdy, hq1, Rd.keep sm ht, hm1⟩)
      · obtain ⟨d', hd'⟩ := ok.xdef r hr' (er ▸ hx)
        rw [er, e0] at hd'
        cases hd'
      · cases e : H c with
        | none => exact absurd e hc
        | some o => rw [sm c o e]; simp
      · have hc' : c = q ∨ c = m' := by simpa using hc
        rcases hc' with rfl | rfl
        · exact ⟨.inr hq, _, hq1, trivial⟩
        · exact ⟨.inr hm0, _, hm1, trivial⟩
  · exact h.elim

/-! isinstance(other, Cutter), == -/
/-- what isinstance wants of the class -/
structure CutI (K : PySem.W.Frag) (C : Addr) : Prop where
  cl : PySem.W.findIn K (.ref C) "__class__" = some (some (.builtin "object.__class__"))
  gt : PySem.W.specialIn K (.builtin "object.__class__") "__get__" = some (some (.builtin "getset_descriptor.__get__"))
  tk : PySem.W.takesIn K (.builtin "object.__class__") = some true
  mr : PySem.W.mroIn K C (.type "object") = some true
  me : PySem.W.kitOne K (.ref C) (.ref C) = some true
@[simp] def sXis (i : Nat) : En → Out D := fun e => match e[i]? with
  | some (some (.cut _ _ _ _)) => .ok (.bl true) e
  | _ => .stuck
theorem ge_xis {cn : Str} {pn : Pos} (i : Nat) (T : CutC X.K Γ.C) (CI : CutI X.K Γ.C) (hm : X.mg "isinstance" = none) (hmc : X.mg cn = some (.ref Γ.C)) (hx : i ∈ Γ.X := by (try dsimp only); decide) (hN : X.N[i]? = some x := by rfl) (hv : Vis X.env.scope x := by first | exact Or.inl rfl | exact Or.inr (Or.inl rfl) | exact Or.inr (Or.inr rfl))
    (hd : (x == ("__debug__" : Str)) = false := by decide) (hcd : (x == ("__classdict__" : Str)) = false := by decide) (hg : Gl X "isinstance" := by rfl) (hg2 : Gl X cn := by rfl) (hdb : (cn == ("__debug__" : Str)) = false := by decide)
    (hs : starEach [.Name x py, .Name cn pn] X.env = (false, eval (.Name x py) X.env) :: starEach [.Name cn pn] X.env := by rfl) (hs2 : starEach [.Name cn pn] X.env = (false, eval (.Name cn pn) X.env) :: starEach [] X.env := by rfl) (hpl : (backTo pos (starEach [.Name cn pn] X.env)).any (·.1) = false := by rfl) :
    GE X Γ W (.Call (.Name "isinstance" p) [.Name x py, .Name cn pn] [] pos) .all (sXis i) := by
  refine ⟨PE.weak (pe_callB call_isi hg hm (by decide +kernel) (pa_cons (pe_var hN hv hd hcd) (pa_cons (pe_glob (v := .ref Γ.C) hg2 hmc rfl hdb) pa_nil hs2) hs) (he := hs) (hpl := hpl)) ?_⟩
  rintro σ H Q ⟨B, F, env, ok, h⟩
  unfold sXis at h
  split at h
  · rename_i a b g k0 e0
    obtain ⟨v, e1, q0, dx, l, t, rfl, hF, n1, n2, n3, hdx, hp, ht, hl⟩ := ok.atX hx e0
    exact ⟨_, e1, .ref q0, .ref Γ.C, .ref Γ.C, .ref Γ.C, true, rfl, .own _, .base (.ins hp T.cl CI.cl CI.gt CI.tk CI.mr), CI.me, h.here ok _ rfl⟩
  · exact h.elim
/-- == of two cutters -/
@[simp] def sXeq (Φ : List D → COut) (i j : Nat) : En → Out D := fun e => match e[i]?, e[j]? with
  | some (some (.cut a b g k)), some (some (.cut c d f l)) => match Φ [.cut a b g k, .cut c d f l] with
    | .ok (.bl t) xs => .ok (.bl t) (putX e [some i, some j] xs)
    | _ => .stuck
  | _, _ => .stuck
/-- what the class's == is -/
structure CutE (K : PySem.W.Frag) (C : Addr) : Prop where
  nf : PySem.W.notFirst K C (.ref C) = true
def rXeq (C : Addr) (exc : Nat → Addr) (Φ : List D → COut) : R2 := fun x y H Q => ∃ a b dx dy fs gs, x = .ref a ∧ y = .ref b ∧ H a = some (.ins C dx fs) ∧ H b = some (.ins C dy gs) ∧ spD C exc 2 [0, 1] Φ [.ref a, .ref b] H (fun v H' => ∃ t, v = .bl t ∧ Q (.bl t) H') (fun _ _ _ => False)
theorem op_xeq {C : Addr} {exc : Nat → Addr} (Dm : MtD X.prog X.w X.K X.mg X.base C exc "__eq__" kk 2 [0, 1] Φ) (hr : Room kk X.A) : OpR X (compareOp .Eq) (rXeq C exc Φ) := by
  obtain ⟨fa, fd, ps, Fn, hmt, hb⟩ := Dm.ex
  intro pins s σ H x y v u Q I rx ry hq
  obtain ⟨a, b, dx, dy, fs, gs, rfl, rfl, ha, hb', hq⟩ := hq
  cases rx
  cases ry
  obtain ⟨mA, J, _⟩ := ins_get I.hok ha
  obtain ⟨mB, J', _⟩ := ins_get I.hok hb'
  obtain ⟨od, J, _⟩ := J.look
  obtain ⟨od', J', _⟩ := J'.look
  obtain ⟨m, hF⟩ := I.fr
  show wpAny (model X.prog X.w) X.A (richCompare .Eq (.ref a) (.ref b)) (EP X pins σ Q) X.xe s
  refine PySem.W.cmp_K (op := .Eq) (tb := .ref C) hr.units0 hF I.ok.mod.kin J J'.type (by simp [PySem.W.notFirst]) hmt.at_ hmt.fn ?_
  refine wpAny_mono (run_fnA (E := fun _ _ _ _ => False) (us := [Value.ref a, Value.ref b]) (vs := [V.ref a, V.ref b]) Fn hr rfl hb (fun pins H s e s' I c => cx_no c) I (.cons rfl (.cons rfl .nil)) hq) (fun u s' z => ?_) fun _ _ y => y
  obtain ⟨v, H', I', rv, t, rfl, q'⟩ := z
  cases (show u = Value.bool t from rv)
  exact ⟨.bl t, H', I', rfl, q'⟩
theorem xeq_core {i j : Nat} (hij : i ≠ j) (hx : i ∈ Γ.X) (hxj : j ∈ Γ.X) {σ : L2.St} {H : Hp} {Q : VK} (h : tE Γ W .all (sXeq Φ i j) σ H Q) : tOp (rXeq Γ.C Γ.exc Φ) (tVar i) (tVar j) σ H Q := by
  obtain ⟨B, F, env, ok, h⟩ := h
  unfold sXeq at h
  split at h
  · rename_i a b g k c d f l ei ej
    obtain ⟨v, e1, q0, dx, l1, t1, rfl, hF, n1, n2, n3, hdx, hp, ht, hl⟩ := ok.atX hx ei
    obtain ⟨v, e2, q1, dy, l2, t2, rfl, hF', m1, m2, m3, hdx', hp', ht', hl'⟩ := ok.atX hxj ej
    split at h
    · rename_i t xs hΦ
      have hf : Φ (fillX env [some i, some j] [.non, .non]) = .ok (.bl t) xs := by simp only [fillX, ei, ej]; exact hΦ
      refine ⟨_, e1, _, e2, q0, q1, dx, dy, _, _, rfl, rfl, hp, hp', ?_⟩
      have hnd : ndS [some i, some j] = true := by
        simp [ndS]
        exact hij
      refine call_step (W := fun _ _ _ _ => False) (sl := [some i, some j]) (ds := [.non, .non]) hnd rfl ok ⟨hx, e1, hxj, e2, trivial⟩ ?_ fun n hn hi => ?_
      · rw [hf]
        intro H' F' ok' g' v r
        cases (show v = V.bl t from r)
        exact ⟨t, rfl, h H' F' ok' g' _ r⟩
      · have : n = i ∨ n = j := by simpa using hi
        rcases this with rfl | rfl
        · exact ⟨_, ei⟩
        · exact ⟨_, ej⟩
    · exact h.elim
  · exact h.elim
theorem ge_xeq (i j : Nat) (Dm : MtD X.prog X.w X.K X.mg X.base Γ.C Γ.exc "__eq__" kk 2 [0, 1] Φ) (hr : Room kk X.A) (hij : i ≠ j := by decide) (hx : i ∈ Γ.X := by (try dsimp only); decide) (hxj : j ∈ Γ.X := by (try dsimp only); decide)
    (hi : X.N[i]? = some y := by rfl) (hvi : Vis X.env.scope y := by first | exact Or.inl rfl | exact Or.inr (Or.inl rfl) | exact Or.inr (Or.inr rfl)) (hdi : (y == ("__debug__" : Str)) = false := by decide) (hcdi : (y == ("__classdict__" : Str)) = false := by decide)
    (hj : X.N[j]? = some x := by rfl) (hv : Vis X.env.scope x := by first | exact Or.inl rfl | exact Or.inr (Or.inl rfl) | exact Or.inr (Or.inr rfl)) (hd : (x == ("__debug__" : Str)) = false := by decide) (hcd : (x == ("__classdict__" : Str)) = false := by decide)
    (hm : behindInMarks .Eq (.Name x p) = false := by first | exact nomark _ | rfl) : GE X Γ W (.Compare (.Name y py) [.Eq] [.Name x p] pos) .all (sXeq Φ i j) :=
  ⟨PE.weak (pe_cmpR (op_xeq Dm hr) (pe_var hi hvi hdi hcdi) (pe_var hj hv hd hcd) hm) fun _ _ _ h => xeq_core hij hx hxj h⟩
theorem gt_xeq (i j : Nat) (Dm : MtD X.prog X.w X.K X.mg X.base Γ.C Γ.exc "__eq__" kk 2 [0, 1] Φ) (hr : Room kk X.A) (hij : i ≠ j := by decide) (hx : i ∈ Γ.X := by (try dsimp only); decide) (hxj : j ∈ Γ.X := by (try dsimp only); decide)
    (hi : X.N[i]? = some y := by rfl) (hvi : Vis X.env.scope y := by first | exact Or.inl rfl | exact Or.inr (Or.inl rfl) | exact Or.inr (Or.inr rfl)) (hdi : (y == ("__debug__" : Str)) = false := by decide) (hcdi : (y == ("__classdict__" : Str)) = false := by decide)
    (hj : X.N[j]? = some x := by rfl) (hv : Vis X.env.scope x := by first | exact Or.inl rfl | exact Or.inr (Or.inl rfl) | exact Or.inr (Or.inr rfl)) (hd : (x == ("__debug__" : Str)) = false := by decide) (hcd : (x == ("__classdict__" : Str)) = false := by decide)
    (hm : behindInMarks .Eq (.Name x p) = false := by first | exact nomark _ | rfl) : GT X Γ W (.Compare (.Name y py) [.Eq] [.Name x p] pos) (sB (sXeq Φ i j)) :=
  ⟨PT.weak (pt_cmpR (op_xeq Dm hr) (pe_var hi hvi hdi hcdi) (pe_var hj hv hd hcd) hm) fun _ _ _ h => xeq_core hij hx hxj (tB_of h)⟩
end
end Ev

set_option Elab.async false
set_option linter.all false
set_option maxRecDepth 100000
set_option maxHeartbeats 4000000
/-! Ev31: a walk over a list of the def's own; join. -/
namespace Ev
open PySem L2
@[simp] def atInts (e : En) (i : Nat) : Option (List Int) := (atLst e i).bind ints?
theorem atInts_eq {e : En} {i : Nat} {ns : List Int} (h : atInts e i = some ns) : e[i]? = some (some (.lst (ns.map .int))) := by
  unfold atInts at h
  cases q : atLst e i with
  | none => rw [q] at h; cases h
  | some ds =>
    rw [q] at h
    rw [atLst_eq q, ints?_eq h]
/-- the walk, while the list at the slot i stands -/
def forRunM (i : Nat) (ns : List Int) (g : D → En → Option En) (b : En → Out Fl) : List Int → En → Out Fl
  | [], e => .ok .nx e
  | n :: ms, e => match g (.int n) e with
    | none => .stuck
    | some e1 => match b e1 with
      | .ok .nx e2 => if atInts e2 i = some ns then forRunM i ns g b ms e2 else .stuck
      | .raise x e2 => .raise x e2
      | _ => .stuck
def sForM (i : Nat) (g : D → En → Option En) (b : En → Out Fl) : En → Out Fl := fun e => match atInts e i with
  | some ns => forRunM i ns g b ns e
  | none => .stuck
section
variable {X : Cx} {Γ : Cy} {W : WX} {pos pos2 p : Pos} {x : Str} {tg tg2 e : Expr} {k : Fk} {fe : En → Out Ev.D} {gt gt2 : Ev.D → En → Option En} {vs1 vs2 : List Nat}
theorem gs_forM (i : Nat) (hp : PassesOwn (model X.prog X.w) X.A X.env X.xe) (hc : X.calm = true) (hg : GG X Γ tg vs1 gt) (he : GE X Γ W e k fe) (hg2 : GG X Γ tg2 vs2 gt2) (hx : i ∉ Γ.X := by (try dsimp only); decide) (hm : i ∈ Γ.M := by (try dsimp only); decide) (hi1 : i ∉ vs1 := by decide) (hi2 : i ∉ vs2 := by decide)
    (hN : X.N[i]? = some x := by rfl) (hv : Vis X.env.scope x := by first | exact Or.inl rfl | exact Or.inr (Or.inl rfl) | exact Or.inr (Or.inr rfl)) (hd : (x == ("__debug__" : Str)) = false := by decide) (hcd : (x == ("__classdict__" : Str)) = false := by decide)
    (hs : swapsWithSole [tg2] e pos2.line X.env = pure false := by rfl) (hw : swappedStores [tg2] e X.env = pure none := by rfl) (h1 : (assignEach [tg2] X.env).map (·.2) = [assign tg2 X.env] := by rfl) (hsF : ∀ y, foldedSetIterable (.Name x p) X.env y = pure y := by intro _; rfl) :
    GS X Γ W (.For tg (.Name x p) [.Assign [tg2] e pos2] [] pos) (sForM i gt (sAsg k fe gt2)) := by
  refine ⟨PS.weak (ps_for hp hc (pi_seq (pe_var hN hv hd hcd)) hg.pg (pss_one (ps_asg he.pe hg2.pg hs hw h1)) hsF) ?_⟩
  rintro D σ H ⟨B, F, env, ok, h⟩
  unfold sForM at h
  cases q0 : atInts env i with
  | none => rw [q0] at h; exact h.elim
  | some ns =>
    rw [q0] at h
    have at2 : ∀ {F2 : Fp} {σ2 : L2.St} {H2 : Hp} {e2 : En} {a : Addr}, StOk Γ B F2 σ2 H2 e2 → atInts e2 i = some ns → σ2[i]? = some (some (.ref a)) → H2 a = some (.lst (ns.map V.int)) := fun {F2 σ2 H2 e2 a} ok2 ea es => by
      obtain ⟨ds, a', xs, qd, e1, e2, e3, e4⟩ := ok2.atM hx hm (atInts_eq ea)
      cases qd
      rw [es] at e1
      cases e1
      rw [Reps.ints e4] at e3
      exact e3
    obtain ⟨ds, a, xs, qd, e1, _⟩ := ok.atM hx hm (atInts_eq q0)
    have e3 := at2 ok q0 e1
    refine ⟨_, e1, a, rfl, .inl ⟨⟨_, SqL.of e3⟩, ?_⟩⟩
    obtain ⟨R, hR⟩ : ∃ R, forRunM i ns gt (sAsg k fe gt2) ns env = R := ⟨_, rfl⟩
    have h0 : oS Γ W B (forRunM i ns gt (sAsg k fe gt2) ns env) D := h
    rw [hR] at h0
    clear h
    refine for_it walk_list (fun n σ2 H2 => ∃ F2 e2, StOk Γ B F2 σ2 H2 e2 ∧ σ2[i]? = some (some (.ref a)) ∧ atInts e2 i = some ns ∧ forRunM i ns gt (sAsg k fe gt2) (ns.drop n) e2 = R) ⟨F, env, ok, e1, q0, by rw [List.drop_zero]; exact hR⟩
      (fun n σ2 H2 _ ⟨F2, e2, ok2, es, ea, _⟩ => SqL.of (at2 ok2 ea es)) (fun n v σ2 H2 H3 hi pv y => ?_) (fun σ2 H2 pv => ?_)
    · obtain ⟨F2, e2, ok2, es, ea, hq⟩ := pv
      obtain ⟨rfl, hv⟩ := y
      rw [List.length_map] at hi
      rw [List.getElem?_map, List.getElem?_eq_getElem hi] at hv
      cases hv
      rw [List.drop_eq_getElem_cons hi] at hq
      unfold forRunM at hq
      refine ⟨B, F2, e2, .int ns[n], ok2, rfl, ?_⟩
      cases q1 : gt (.int ns[n]) e2 with
      | none => rw [q1] at hq; rw [← hq] at h0; exact h0.elim
      | some e3' =>
        rw [q1] at hq
        simp only at hq
        intro σ3 w3 ok3
        have es3 : σ3[i]? = some (some (.ref a)) := by rw [wipe_eq_out w3 hi1]; exact es
        refine ⟨B, F2, e3', ok3, ?_⟩
        cases q2 : fe e3' with
        | stuck =>
          have ez : sAsg k fe gt2 e3' = .stuck := by simp [q2]
          rw [ez] at hq; rw [← hq] at h0; exact h0.elim
        | raise c e4 =>
          have ez : sAsg k fe gt2 e3' = .raise c e4 := by simp [q2]
          rw [ez] at hq
          rw [← hq] at h0
          exact fun H5 F5 ok5 g5 => h0 σ3 H5 F5 ok5
        | ok d e4 =>
          intro H5 F5 ok5 g5 v rv
          by_cases hk : okB k d = true
          · refine ⟨B, F5, e4, d, ok5, RepK.okB hk rv, ?_⟩
            cases q3 : gt2 d e4 with
            | none =>
              have ez : sAsg k fe gt2 e3' = .stuck := by simp only [sAsg, q2, bind_ok, hk, if_true, q3]
              rw [ez] at hq; rw [← hq] at h0; exact h0.elim
            | some e5 =>
              have ez : sAsg k fe gt2 e3' = .ok .nx e5 := by simp only [sAsg, q2, bind_ok, hk, if_true, q3]
              rw [ez] at hq
              simp only at hq
              intro σ6 w6 ok6
              split at hq
              · rename_i ea5
                exact ⟨F5, e5, ok6, by rw [wipe_eq_out w6 hi2]; exact es3, ea5, hq⟩
              · rw [← hq] at h0; exact h0.elim
          · have ez : sAsg k fe gt2 e3' = .stuck := by simp only [sAsg, q2, bind_ok, if_neg hk]
            rw [ez] at hq; rw [← hq] at h0; exact h0.elim
    · obtain ⟨F2, e2, ok2, es, ea, hq⟩ := pv
      rw [List.length_map, List.drop_length] at hq
      unfold forRunM at hq
      rw [← hq] at h0
      exact h0 σ2 H2 F2 ok2
end
/-! texts joined -/
def strs? : List D → Option (List Str)
  | [] => some []
  | .str i :: ds => (strs? ds).map (i :: ·)
  | _ => none
theorem strs?_eq : ∀ {ds : List D} {ns : List Str}, strs? ds = some ns → ds = ns.map D.str
  | [], _, h => by cases h; rfl
  | d :: ds, _, h => by
    cases d with
    | str x =>
      unfold strs? at h
      cases q : strs? ds with
      | none => rw [q] at h; cases h
      | some ns =>
        rw [q] at h
        cases h
        rw [strs?_eq q]; rfl
    | _ => cases h
@[simp] theorem strs?_map : ∀ ns : List Str, strs? (ns.map D.str) = some ns
  | [] => rfl
  | n :: ns => by simp [strs?, strs?_map ns]
theorem Reps.strs {H : Hp} {L : Addr → Prop} : ∀ {ns : List Str} {vs : List V}, Reps H L (ns.map D.str) vs → vs = ns.map V.str
  | [], _, h => h
  | n :: ns, vs, h => by
    obtain ⟨x, r, rfl, h1, h2⟩ := h
    cases (show x = V.str n from h1)
    rw [Reps.strs h2]; rfl
theorem Reps.of_strs {H : Hp} {L : Addr → Prop} : ∀ (ns : List Str), Reps H L (ns.map D.str) (ns.map V.str)
  | [] => rfl
  | n :: ns => ⟨_, _, rfl, rfl, Reps.of_strs ns⟩
def oJoin : D → D → Option D
  | .str a, .lst ds => match strs? ds with
    | some ys => if decide ((ys.map (·.length)).sum + ys.length * a.length ≤ 16777216) = true then some (.str (Txt.join a ys)) else none
    | none => none
  | _, _ => none
section
variable {X : Cx} {Γ : Cy} {W : WX} {pos apos : Pos} {o e : Expr} {ko k : Fk} {fo fe : En → Out D}
@[simp] def sJoin (fo fe : En → Out D) : En → Out D := fun e => (fo e).bind fun x e1 => match x with
  | .str a => (fe e1).bind fun y e2 => lift (oJoin (.str a) y) e2
  | _ => .stuck
theorem ge_join (ho : GE X Γ W o ko fo) (he : GE X Γ W e k fe)
    (hPE : ∀ {to te : TE}, PE X o to → PE X e te → PE X (.Call (.Attribute o "join" apos) [e] [] pos) (tM1 (fun x xs H Q => ∃ a p, ∃ ys : List Str, x = .str a ∧ xs = [.ref p] ∧ (SqL X.K H p (ys.map V.str) ∨ SqT X.K H p (ys.map V.str)) ∧ (ys.map (·.length)).sum + ys.length * a.length ≤ 16777216 ∧ Q (.str (Txt.join a ys)) H) to te) := by exact fun h1 h2 => pe_join h1 h2) :
    GE X Γ W (.Call (.Attribute o "join" apos) [e] [] pos) .all (sJoin fo fe) := by
  refine ⟨PE.weak (hPE ho.pe he.pe) ?_⟩
  rintro σ H Q ⟨B, F, env, ok, h⟩
  refine ⟨B, F, env, ok, oE.imp (oE.bind h) fun x e1 H1 F1 _ _ ⟨ok1, g1, h1⟩ u ru => ?_⟩
  cases x with
  | str a =>
    cases (show u = V.str a from ru.x)
    refine ⟨⟨a, rfl⟩, B, F1, e1, ok1, oE.imp (oE.bind h1) fun y e2 H2 F2 _ _ ⟨ok2, g2, h2⟩ v rv => ?_⟩
    cases y with
    | lst ds =>
      have h3 : oE Γ W B F2 σ H2 (lift (match strs? ds with
        | some ys => if decide ((ys.map (·.length)).sum + ys.length * a.length ≤ 16777216) = true then some (D.str (Txt.join a ys)) else none
        | none => none) e2) _ := h2
      cases q : strs? ds with
      | none => rw [q] at h3; exact h3.elim
      | some ys =>
        rw [q] at h3
        simp only at h3
        split at h3
        · rename_i hl
          cases strs?_eq q
          obtain ⟨b, xs, rfl, hA, rA⟩ := rv.lst
          rw [Reps.strs rA] at hA
          exact ⟨a, b, ys, rfl, rfl, .inl (SqL.of hA), of_decide_eq_true hl, h3.here ok2 _ (RepK.sc (k := .all) rfl)⟩
        · exact h3.elim
    | _ =>
      have h3 : oE Γ W B F2 σ H2 .stuck _ := h2
      exact h3.elim
  | _ => exact h1.elim
end
end Ev

set_option Elab.async false
set_option linter.all false
set_option maxRecDepth 100000
set_option maxHeartbeats 4000000
/-! Ev32: ranges downwards. -/
namespace Ev
open PySem L2
def downD (i j : Int) : List D := (List.range (i - j).toNat).map fun n => .int (i + (n : Nat) * (-1))
theorem downD_length (i j : Int) : (downD i j).length = (i - j).toNat := by simp [downD]
@[simp] def int3? : List D → Option (Int × Int × Int)
  | [.int i, .int j, .int c] => some (i, j, c)
  | _ => none
theorem int3?_eq {ds : List D} {i j c : Int} (h : int3? ds = some (i, j, c)) : ds = [.int i, .int j, .int c] := by
  unfold int3? at h
  split at h
  · cases h; rfl
  · cases h
@[simp] def sRange3 (g : En → Out (List D)) : En → Out (List D) := fun e => (g e).bind fun ds e1 => match int3? ds with
  | some (i, j, c) => if (rgB i && rgB j && decide (c = -1)) = true then .ok (downD i j) e1 else .stuck
  | none => .stuck
theorem walk_down {lo c : Int} {n : Nat} : Walk (Itc lo c n) n (fun _ => True) (YFn fun i => .int (lo + (i : Nat) * c)) := ⟨fun i _ hi _ => hi, fun _ _ => Nat.le_refl _, fun i H v H' _ _ y => y⟩
section
variable {X : Cx} {Γ : Cy} {W : WX} {pos p : Pos} {tg a b c : Expr} {al : Bool} {g : En → Out (List D)}
theorem gi_range3 (ha : GA X Γ W [a, b, c] al g) (hm : X.mg "range" = none) (hg : Gl X "range" := by rfl) (hs : starEach [a, b, c] X.env = (false, eval a X.env) :: starEach [b, c] X.env := by rfl) (hpl : (backTo pos (starEach [b, c] X.env)).any (·.1) = false := by rfl) :
    GI X Γ W tg (.Call (.Name "range" p) [a, b, c] [] pos) true (sRange3 g) := by
  refine ⟨PI.weak (pi_range3 hg hm ha.pa hs hpl) ?_⟩
  rintro σ H R ⟨B, F, env, ok, h⟩
  refine ⟨B, F, env, ok, oE.imp (oE.bind h) fun ds e1 H1 F1 _ _ ⟨ok1, g1, h1⟩ vs rv => ?_⟩
  cases q : int3? ds with
  | none => rw [q] at h1; exact h1.elim
  | some ijc =>
    obtain ⟨i, j, c⟩ := ijc
    rw [q] at h1
    cases int3?_eq q
    simp only at h1
    split at h1
    · rename_i hb
      rw [Bool.and_eq_true, Bool.and_eq_true] at hb
      obtain ⟨x, r, rfl, r1, y, r', rfl, r3, z, r'', rfl, r5, r6⟩ := rv
      cases (show r'' = [] from r6)
      cases (show x = V.int i from r1)
      cases (show y = V.int j from r3)
      cases (show z = V.int c from r5)
      obtain ⟨q1, q2⟩ := rgB_ok hb.1.1
      obtain ⟨q3, q4⟩ := rgB_ok hb.1.2
      have ec := of_decide_eq_true hb.2
      subst ec
      refine ⟨i, j, -1, (i - j).toNat, rfl, RgC.neg q1 q2 q3 q4, h1.here ok1 (Itc i (-1) (i - j).toNat) (fun _ => True) (YFn fun n => .int (i + (n : Nat) * (-1))) ?_ (fun _ _ => trivial) fun n H2 x H3 hn _ y => ?_⟩
      · rw [downD_length]; exact walk_down
      · obtain ⟨rfl, rfl⟩ := y
        rw [downD_length] at hn
        refine ⟨Same.refl _, .int (i + (n : Nat) * (-1)), ?_, rfl⟩
        unfold downD
        rw [List.getElem?_map, List.getElem?_range hn]
        rfl
    · exact h1.elim
theorem ge_ifA {c1 : En → Out Bool} {f f2 : En → Out D} (hc : GT X Γ W c c1) (ha : GE X Γ W a .all f) (hb : GE X Γ W b .all f2) : GE X Γ W (.IfExp c a b pos) .all (sIf c1 f f2) := ge_if hc ha hb
end
end Ev

set_option Elab.async false
set_option linter.all false
set_option maxRecDepth 100000
set_option maxHeartbeats 4000000
/-! Ev33: what a def returns is changed: no one's. -/
namespace Ev
open PySem L2
theorem StOk.loose {Γ : Cy} {B : Base} {F : Fp} {σ : L2.St} {H : Hp} {env : En} (ok : StOk Γ B F σ H env) {i : Nat} {o : Option V} (hx : i ∉ Γ.X) (hp : i ∉ Γ.P) : StOk Γ B F (σ.set i o) H (env.set i none) where
  len := by rw [List.length_set, List.length_set]; exact ok.len
  dom := ok.dom
  keep := ok.keep
  slot := fun j d e => by
    by_cases hj : i = j
    · subst hj
      by_cases hl : i < env.length
      · rw [List.getElem?_set_self hl] at e; cases e
      · rw [List.getElem?_eq_none (by simpa using hl)] at e; cases e
    · rw [List.getElem?_set_ne hj] at e
      obtain ⟨w, h1, h2⟩ := ok.slot j d e
      exact ⟨w, by rw [List.getElem?_set_ne hj]; exact h1, h2⟩
  disj := ok.disj
  orig := ok.orig
  trk := ok.trk
  xval := fun p hp' => by
    obtain ⟨h1, h2⟩ := ok.xval p hp'
    refine ⟨h1, ?_⟩
    rw [List.getElem?_set_ne]
    · exact h2
    · rintro rfl
      rcases h1 with h1 | h1
      · exact hx h1
      · exact hp h1
  xdef := fun p hp' hX => by
    obtain ⟨d, h⟩ := ok.xdef p hp' hX
    exact ⟨d, by rw [List.getElem?_set_ne (fun z => hx (by rw [z]; exact hX))]; exact h⟩
  entD := ok.entD
  entF := ok.entF
  xvx := ok.xvx
  newv := fun j hj a e => ok.newv j hj a (by rwa [List.getElem?_set_ne (fun z => hp (by rw [z]; exact hj))] at e)
theorem no_self {H : Hp} {L : Addr → Prop} {a : Addr} {xs : List V} {m : Nat} (hA : H a = some (.lst xs)) (hx : xs[m]? = some (.ref a)) : ∀ {k : Nat} {d : D}, shp k d = true → Rep H L d (.ref a) → False
  | _, .non, _, r => by cases (show V.ref a = _ from r)
  | _, .bl _, _, r => by cases (show V.ref a = _ from r)
  | _, .int _, _, r => by cases (show V.ref a = _ from r)
  | _, .str _, _, r => by cases (show V.ref a = _ from r)
  | k, .tup ds, _, r => by
    obtain ⟨b, ys, e, h1, _⟩ := r
    cases e
    rcases h1 with h1 | ⟨o, h1⟩ <;> (rw [hA] at h1; cases h1)
  | 0, .lst ds, s, _ => by simp [shp] at s
  | k + 1, .lst ds, s, r => by
    obtain ⟨b, ys, e, h1, _, h2⟩ := r
    cases e
    rw [hA] at h1
    cases h1
    obtain ⟨d', hd, rd⟩ := h2.get' hx
    have hall : ∀ {es : List D}, shps k es = true → ∀ {n : Nat} {e : D}, es[n]? = some e → shp k e = true := fun {es} h {n e} q => by
      induction es generalizing n with
      | nil => simp at q
      | cons z zs ih =>
        have h' : shp k z = true ∧ shps k zs = true := by simpa [shps] using h
        cases n with
        | zero => simp at q; rw [← q]; exact h'.1
        | succ n => exact ih h'.2 (by simpa using q)
    exact no_self hA hx (k := k) (hall (by simpa [shp] using s) hd) rd
  | k, .raw _, s, _ => by cases k <;> simp [shp] at s
  | k, .ftp _, s, _ => by cases k <;> simp [shp] at s
  | k, .scr _ _, s, _ => by cases k <;> simp [shp] at s
  | k, .town _, s, _ => by cases k <;> simp [shp] at s
  | k, .cut _ _ _ _, s, _ => by cases k <;> simp [shp] at s
  | k, .dct _, s, _ => by cases k <;> simp [shp] at s
def isL2 : D → Bool
  | .lst es => shp 9 (.lst es) && lim es.length
  | _ => false
def sForApp (Φ : List D → COut) (i j1 j2 : Nat) : En → Out Fl := fun e => match e[j1]?, e[j2]?, e[i]? with
  | some (some d1), some (some d2), some _ => (match Φ [d1, d2] with
    | .ok (.lst ds) _ => if (ds.all isL2 && lim ds.length) = true then .ok .nx (e.set i none) else .stuck
    | .raise c _ => .raise c e
    | _ => .stuck)
  | _, _, _ => .stuck
section
variable {X : Cx} {Γ : Cy} {W : WX} {fn t x y : Str} {pt pf px py pc p3 ap pn cp ep pos : Pos} {jj : Option Str} {Φ : List D → COut} {kk : Nat}
theorem gs_forApp {j0} (i j1 j2 : Nat) (Dd : FnD X.prog X.w X.K X.mg X.base Γ.C Γ.exc fn kk 2 [] Φ) (hr : Room kk X.A) (tk : Takes X W) (hp : PassesOwn (model X.prog X.w) X.A X.env X.xe) (hc : X.calm = true) (hN : X.N.Nodup)
    (hx : i ∉ Γ.X := by (try dsimp only); decide) (hm : i ∉ Γ.M := by (try dsimp only); decide) (hpp : i ∉ Γ.P := by (try dsimp only); decide) (hx1 : j1 ∉ Γ.X := by (try dsimp only); decide) (hm1 : j1 ∉ Γ.M := by (try dsimp only); decide) (hx2 : j2 ∉ Γ.X := by (try dsimp only); decide) (hm2 : j2 ∉ Γ.M := by (try dsimp only); decide)
    (hi : X.N[i]? = some t := by rfl) (hl : Loc X.env.scope t := by first | exact Or.inl rfl | exact Or.inr rfl) (hf : X.fn t = true ∨ X.env.scope.names.lookup t = some .local := by first | exact .inl rfl | exact .inr rfl)
    (hvt : Vis X.env.scope t := by first | exact Or.inl rfl | exact Or.inr (Or.inl rfl) | exact Or.inr (Or.inr rfl)) (hdt : (t == ("__debug__" : Str)) = false := by decide) (hcdt : (t == ("__classdict__" : Str)) = false := by decide)
    (h1 : X.N[j1]? = some x := by rfl) (hv1 : Vis X.env.scope x := by first | exact Or.inl rfl | exact Or.inr (Or.inl rfl) | exact Or.inr (Or.inr rfl)) (hd1 : (x == ("__debug__" : Str)) = false := by decide) (hcd1 : (x == ("__classdict__" : Str)) = false := by decide)
    (h2 : X.N[j2]? = some y := by rfl) (hv2 : Vis X.env.scope y := by first | exact Or.inl rfl | exact Or.inr (Or.inl rfl) | exact Or.inr (Or.inr rfl)) (hd2 : (y == ("__debug__" : Str)) = false := by decide) (hcd2 : (y == ("__classdict__" : Str)) = false := by decide)
    (hg : Gl X fn := by rfl) (hdb : (fn == ("__debug__" : Str)) = false := by decide) (he : starEach [.Name x px, .Name y py] X.env = (false, eval (.Name x px) X.env) :: starEach [.Name y py] X.env := by rfl) (he2 : starEach [.Name y py] X.env = (false, eval (.Name y py) X.env) :: starEach [] X.env := by rfl) (hpl : (backTo pc (starEach [.Name y py] X.env)).any (·.1) = false := by rfl)
    (hs1 : starEach [.Constant .none j0 pn] X.env = (false, eval (.Constant .none j0 pn) X.env) :: starEach [] X.env := by rfl)
    (hPE : ∀ {ta : TE} {tb : TA}, PE X (.Name t p3) ta → PA X [.Constant .none j0 pn] tb → PE X (.Call (.Attribute (.Name t p3) "append" ap) [.Constant .none j0 pn] [] cp) (tBM X.K "list" rAppend ta tb) := by exact fun h1 h2 => pe_bm PySem.F.plainAttrs_list PySem.F.slot_list_append PySem.F.type_list_append mt_append h1 h2)
    (hs : swapsWith (.Call (.Attribute (.Name t p3) "append" ap) [.Constant .none j0 pn] [] cp) none ep.line X.env = pure false := by rfl)
    (hsF : ∀ z, foldedSetIterable (.Call (.Name fn pf) [.Name x px, .Name y py] [] pc) X.env z = pure z := by intro _; rfl) :
    GS X Γ W (.For (.Name t pt) (.Call (.Name fn pf) [.Name x px, .Name y py] [] pc) [.Expr (.Call (.Attribute (.Name t p3) "append" ap) [.Constant .none j0 pn] [] cp) ep] [] pos) (sForApp Φ i j1 j2) := by
  obtain ⟨fa, fd, ps, Fn, hmf, hk, hb⟩ := Dd.ex
  refine ⟨PS.weak (ps_for hp hc (pi_seq (pe_callS (E := fun σ => WE W σ) Fn hr hg hmf hk hb (fun σ => passAt tk σ) (pa_cons (pe_var h1 hv1 hd1 hcd1) (pa_cons (pe_var h2 hv2 hd2 hcd2) pa_nil he2) he) hdb he hpl)) (pg_name hN hi hl hf) (pss_one (ps_expr (hPE (pe_var hi hvt hdt hcdt) (pa_cons pe_non pa_nil hs1)) hs)) hsF) ?_⟩
  rintro D σ H ⟨B, F, env, ok, h⟩
  unfold sForApp at h
  split at h
  · rename_i d1 d2 oi e1 e2 ei
    obtain ⟨v1, s1, so1⟩ := ok.slot j1 _ e1
    obtain ⟨v2, s2, so2⟩ := ok.slot j2 _ e2
    unfold SlotOk at so1 so2
    rw [if_neg hx1, if_neg hm1] at so1
    rw [if_neg hx2, if_neg hm2] at so2
    have toTr : ∀ {d : Ev.D} {v : V}, Rep H (La F) d v → Rep H Tr d v := fun r => r.imp (fun _ _ q => q) fun _ _ q _ => ⟨q, trivial⟩
    have hil : i < σ.length := by rw [ok.len]; exact (List.getElem?_eq_some_iff.mp ei).1
    refine ⟨v1, s1, v2, s2, spD_pure (ds := [d1, d2]) rfl (Reps.cons (toTr so1) (Reps.one (toTr so2))) ?_⟩
    cases z : Φ [d1, d2] with
    | stuck => rw [z] at h; exact h.elim
    | raise c xs => rw [z] at h; exact fun H' sm => h σ H' F (ok.kept sm)
    | ok d xs0 =>
      rw [z] at h
      intro v H1 sm rv
      cases d with
      | lst ds =>
        simp only at h
        split at h
        · rename_i hall
          rw [Bool.and_eq_true] at hall
          obtain ⟨a, xs, rfl, hA, la, rA⟩ := rv
          have hlen := rA.length
          have hlim := of_decide_eq_true hall.2
          refine ⟨a, rfl, .inl ⟨⟨_, SqL.of hA⟩, ?_⟩⟩
          refine for_it walk_list (fun (n : Nat) (σ2 : L2.St) (H2 : Hp) => (σ2 = σ ∨ ∃ o, σ2 = σ.set i o) ∧ Same H H2 ∧ H2 a = some (.lst xs) ∧ ∀ (m : Nat) (u : V), xs[m]? = some u → ∃ (b : Addr) (ys : List V), u = V.ref b ∧ b ≠ a ∧ H b = none ∧ H2 b = some (.lst ys) ∧ ys.length ≤ 1000000 + n) ⟨.inl rfl, sm, hA, fun m u hu => ?_⟩
            (fun n σ2 H2 _ ⟨_, _, h3, _⟩ => SqL.of h3) (fun n u σ2 H2 H3 hi pv y => ?_) (fun σ2 H2 pv => ?_)
          · obtain ⟨d', hd, rd⟩ := rA.get' hu
            have hd' := List.all_eq_true.mp hall.1 d' (List.mem_of_getElem? hd)
            cases d' with
            | lst es =>
              unfold isL2 at hd'
              rw [Bool.and_eq_true] at hd'
              obtain ⟨b, ys, rfl, hB, lb, rB⟩ := id rd
              refine ⟨b, ys, rfl, fun e => ?_, lb, hB, by rw [rB.length]; exact of_decide_eq_true hd'.2⟩
              rw [e] at hu rd
              exact no_self hA hu hd'.1 rd
            | _ => cases hd'
          · obtain ⟨hσ, sm2, h3, h4⟩ := pv
            obtain ⟨rfl, hu⟩ := y
            obtain ⟨b, ys, rfl, hba, hbn, hB, hbl⟩ := h4 n u hu
            have hil2 : i < σ2.length := by
              rcases hσ with rfl | ⟨o, rfl⟩
              · exact hil
              · rw [List.length_set]; exact hil
            have hn : n < 1000000 := by omega
            refine ⟨_, List.getElem?_set_self hil2, .inl ⟨rfl, _, .inl (.inl hB)⟩, ?_⟩
            refine ⟨b, ys, .non, rfl, rfl, hB, Nat.lt_of_le_of_lt (show ys.length ≤ 2000000 by omega) (by decide), ?_, fun c o e => ?_, ?_, fun m u hu => ?_⟩
            · right
              rcases hσ with rfl | ⟨o, rfl⟩
              · exact ⟨_, rfl⟩
              · exact ⟨_, List.set_set ..⟩
            · rw [upd_ne (ne_of_none e hbn)]; exact sm2 c o e
            · rw [upd_ne hba.symm]; exact h3
            · obtain ⟨b', ys', e, q1, q2, q3, q4⟩ := h4 m u hu
              by_cases hbb : b' = b
              · refine ⟨b', ys ++ [.non], e, q1, q2, by rw [hbb]; exact upd_same, ?_⟩
                rw [List.length_append]; simp; omega
              · exact ⟨b', ys', e, q1, q2, by rw [upd_ne hbb]; exact q3, by omega⟩
          · obtain ⟨hσ, sm2, _, _⟩ := pv
            have okk := ok.kept sm2
            rcases hσ with rfl | ⟨o, rfl⟩
            · have := okk.loose (i := i) (o := σ2[i]'hil) hx hpp
              rw [show σ2.set i (σ2[i]'hil) = σ2 by simp] at this
              exact h _ _ _ this
            · exact h _ _ _ (okk.loose hx hpp)
        · exact h.elim
      | _ => exact h.elim
  · exact h.elim
end
/-! name = [..] of new things; return name + [..] -/
@[simp] def sSetCat (i : Nat) (f1 f2 : En → Out D) : En → Out Fl := fun e => (f1 e).bind fun d e1 => match d, e1[i]? with
  | .lst ds, some _ => (f2 (e1.set i (some (.lst ds)))).bind fun d2 e2 => match d2 with
    | .lst es => if lim (ds.length + es.length) = true then .ok (.ret (.lst (ds ++ es))) e2 else .stuck
    | _ => .stuck
  | _, _ => .stuck
section
variable {X : Cx} {Γ : Cy} {W : WX} {x : Str} {p p2 p3 pos pos2 : Pos} {e1 e2 : Expr} {f1 f2 : En → Out Ev.D}
theorem gss_setCat (i : Nat) (hN : X.N.Nodup) (h1 : GE X Γ W e1 .all f1) (h2 : GE X Γ W e2 .all f2) (hx : i ∉ Γ.X := by (try dsimp only); decide) (hm : i ∉ Γ.M := by (try dsimp only); decide) (hp : i ∉ Γ.P := by (try dsimp only); decide) (hi : X.N[i]? = some x := by rfl) (hl : Loc X.env.scope x := by first | exact Or.inl rfl | exact Or.inr rfl)
    (hs : swapsWith e1 (some (.Name x p)) pos.line X.env = pure false := by rfl) (hf : X.fn x = true ∨ X.env.scope.names.lookup x = some .local := by first | exact .inl rfl | exact .inr rfl)
    (hv : Vis X.env.scope x := by first | exact Or.inl rfl | exact Or.inr (Or.inl rfl) | exact Or.inr (Or.inr rfl)) (hd : (x == ("__debug__" : Str)) = false := by decide) (hcd : (x == ("__classdict__" : Str)) = false := by decide) :
    GSs X Γ W [.Assign [.Name x p] e1 pos, .Return (some (.BinOp (.Name x p2) .Add e2 p3)) pos2] (sSetCat i f1 f2) := by
  refine ⟨PSs.weak (pss_cons (ps_set hN hi hl h1.pe hs hf) (pss_one (ps_ret (pe_op op_cat (pe_var hi hv hd hcd) h2.pe)))) ?_⟩
  rintro D σ H ⟨B, F, env, ok, h⟩
  refine ⟨B, F, env, ok, oE.imp (oS.bind h) fun d en1 H1 F1 _ _ ⟨ok1, g1, q1⟩ v rv => ?_⟩
  split at q1
  · rename_i ds oi ei _
    have rv' : Rep H1 (Lf H F1) (.lst ds) v := rv
    have ok2 := ok1.set hx hm hp (rv'.imp (fun _ _ q => q) fun _ _ q l => ⟨q, l.2⟩)
    have hil : i < σ.length := by rw [ok1.len]; exact (List.getElem?_eq_some_iff.mp ei).1
    refine ⟨v, List.getElem?_set_self hil, B, F1, _, ok2, oE.imp (oS.bind q1) fun d2 en2 H2 F2 _ _ ⟨ok3, g2, q2⟩ u ru => ?_⟩
    cases d2 with
    | lst es =>
      simp only at q2
      split at q2
      · rename_i hlm
        obtain ⟨a, xs, rfl, hA, la, rA⟩ := g2.repF rv'
        obtain ⟨b, ys, rfl, hB, lb, rB⟩ := (show Rep H2 (Lf H1 F2) (.lst es) u from ru)
        refine ⟨a, b, xs, ys, rfl, rfl, hA, hB, by rw [rA.length, rB.length]; exact lim_le hlm, fun q hq => ?_⟩
        have fin : ∀ c, Lf H F2 c → B.E c = none ∧ ∀ j ∈ Γ.X, c ∉ F2 j := fun c l => ⟨by
          cases z : B.E c with
          | none => rfl
          | some o => exact absurd l.1 (ok.entD c (by rw [z]; simp)), fun j _ => l.2 j⟩
        refine q2 _ _ _ _ (ok3.alloc hq) ⟨q, _, rfl, upd_same, fin q ⟨g1.free (g2.free hq), ok3.notF hq⟩, ?_⟩
        have rr : Reps H2 (Lf H F2) (ds ++ es) (xs ++ ys) := rA.append (rB.imp (fun _ _ q => q) fun _ _ q l => ⟨q, g1.free l.1, l.2⟩)
        exact (rr.imp (fun _ _ q => q) fun _ _ q l => ⟨q, fin _ l⟩).same (same_upd hq)
      · exact q2.elim
    | _ => exact q2.elim
  · exact q1.elim
end
end Ev

set_option Elab.async false
set_option linter.all false
set_option maxRecDepth 100000
set_option maxHeartbeats 4000000
/-! Ev34: texts: split, signs, int(text), str(text), str(cutter). -/
namespace Ev
open PySem L2
section
variable {X : Cx} {Γ : Cy} {W : WX} {pos p py apos : Pos} {o e tg : Expr} {ko k : Fk} {fo fe : En → Out D} {x : Str}
@[simp] def sSplit (fo fe : En → Out D) : En → Out D := fun e => (fo e).bind fun x e1 => match x with
  | .str a => (fe e1).bind fun y e2 => match y with
    | .str b => if ((b.length == 0) = false ∧ a.length ≤ 1000000) then .ok (.lst ((Txt.split a b).map .str)) e2 else .stuck
    | _ => .stuck
  | _ => .stuck
theorem ge_split (ho : GE X Γ W o ko fo) (he : GE X Γ W e k fe)
    (hPE : ∀ {to te : TE}, PE X o to → PE X e te → PE X (.Call (.Attribute o "split" apos) [e] [] pos) (tM1 (fun x xs H Q => ∃ a b, x = .str a ∧ xs = [.str b] ∧ (b.length == 0) = false ∧ a.length + 2 ≤ sizeLine ∧ rNewStrs (Txt.split a b) H Q) to te) := by exact fun h1 h2 => pe_split h1 h2) :
    GE X Γ W (.Call (.Attribute o "split" apos) [e] [] pos) .all (sSplit fo fe) := by
  refine ⟨PE.weak (hPE ho.pe he.pe) ?_⟩
  rintro σ H Q ⟨B, F, env, ok, h⟩
  refine ⟨B, F, env, ok, oE.imp (oE.bind h) fun x e1 H1 F1 _ _ ⟨ok1, g1, h1⟩ u ru => ?_⟩
  cases x with
  | str a =>
    cases (show u = V.str a from ru.x)
    refine ⟨⟨a, rfl⟩, B, F1, e1, ok1, oE.imp (oE.bind h1) fun y e2 H2 F2 _ _ ⟨ok2, g2, h2⟩ v rv => ?_⟩
    cases y with
    | str b =>
      cases (show v = V.str b from rv.x)
      simp only at h2
      split at h2
      · rename_i hl
        refine ⟨a, b, rfl, rfl, hl.1, Nat.le_trans (show a.length + 2 ≤ 1000002 by omega) (by decide), fun q hq => ?_⟩
        exact h2 _ _ (ok2.alloc hq) (go_alloc hq) _ ⟨q, _, rfl, upd_same, ⟨g1.free (g2.free hq), ok2.notF hq⟩, Reps.of_strs _⟩
      · exact h2.elim
    | _ => exact h2.elim
  | _ => exact h1.elim
@[simp] def sStrIt (f : En → Out D) : En → Out (List D) := fun e => (f e).bind fun d e1 => match d with
  | .str z => .ok (z.cps.toList.map fun c => .str ⟨#[c]⟩) e1
  | _ => .stuck
theorem gi_str (he : GE X Γ W e k fe) : GI X Γ W tg e true (sStrIt fe) := by
  refine ⟨PI.weak (pi_str he.pe) ?_⟩
  rintro σ H R ⟨B, F, env, ok, h⟩
  refine ⟨B, F, env, ok, oE.imp (oE.bind h) fun d e1 H1 F1 _ _ ⟨ok1, g1, h1⟩ v rv => ?_⟩
  cases d with
  | str z =>
    cases (show v = V.str z from rv.x)
    refine ⟨z, rfl, h1.here ok1 (Its z) (fun _ => True) (fun i H v H' => H' = H ∧ ∃ c, z.cps[i]? = some c ∧ v = .str ⟨#[c]⟩) ?_ (fun _ _ => trivial) fun n H2 x H3 hn _ y => ?_⟩
    · rw [List.length_map, Array.length_toList]; exact walk_str
    · obtain ⟨rfl, c, hc, rfl⟩ := y
      refine ⟨Same.refl _, .str ⟨#[c]⟩, ?_, rfl⟩
      rw [List.getElem?_map, Array.getElem?_toList, hc]
      rfl
  | _ => exact h1.elim
/-- one sign in a text -/
@[simp] def oInS : D → D → Option D
  | .str a, .str z => match a.cps.toList with
    | [c] => some (.bl (decide (c ∈ z.cps.toList)))
    | _ => none
  | _, _ => none
theorem c_inS : CmpOk X .In oInS := ⟨_, op_in_sign, fun x y d q => by
  cases x with
  | str a =>
    cases y with
    | str z =>
      have q' : (match a.cps.toList with
        | [c] => some (D.bl (decide (c ∈ z.cps.toList)))
        | _ => none) = some d := q
      split at q'
      · rename_i c hc
        cases q'
        refine ⟨rfl, fun H L u v Q ru rv kk => ⟨c, z, ?_, rv, kk⟩⟩
        rw [show u = V.str a from ru]
        congr 1
        cases a with
        | mk cps =>
          congr 1
          exact Array.toList_inj.mp hc
      · cases q'
    | _ => cases q
  | _ => cases q⟩
@[simp] def oInt : List D → Option D
  | [.str a] => match PySem.intText? a with
    | some n => if a.length ≤ 640 then some (.int n) else none
    | none => none
  | _ => none
theorem h_int : HCall (fun xs H Q => ∃ a n, xs = [V.str a] ∧ PySem.intText? a = some n ∧ a.length ≤ 640 ∧ Q (.int n) H) oInt .all := fun ds d q Γ al Hs F H vs Q nf rv k => by
  unfold oInt at q
  split at q
  · rename_i a
    split at q
    · rename_i n hn
      split at q
      · rename_i hl
        cases q
        obtain ⟨v, rfl, hv⟩ := rv.one_inv
        exact ⟨a, n, by rw [show v = V.str a from hv], hn, hl, k _ _ (Same.refl H) (RepK.sc rfl)⟩
      · cases q
    · cases q
  · cases q
@[simp] def oStrS : List D → Option D
  | [.str a] => some (.str a)
  | _ => none
theorem h_strS : HCall (fun xs H Q => ∃ a, xs = [V.str a] ∧ Q (.str a) H) oStrS .all := fun ds d q Γ al Hs F H vs Q nf rv k => by
  unfold oStrS at q
  split at q
  · rename_i a
    cases q
    obtain ⟨v, rfl, hv⟩ := rv.one_inv
    exact ⟨a, by rw [show v = V.str a from hv], k _ _ (Same.refl H) (RepK.sc rfl)⟩
  · cases q
variable {Φ : List D → COut} {kk : Nat}
@[simp] def sXstr (Φ : List D → COut) (i : Nat) : En → Out D := fun e => match e[i]? with
  | some (some (.cut a b g k)) => match Φ [.cut a b g k] with
    | .ok (.str z) xs => .ok (.str z) (putX e [some i] xs)
    | _ => .stuck
  | _ => .stuck
theorem ge_xstr (i : Nat) (Dm : MtD X.prog X.w X.K X.mg X.base Γ.C Γ.exc "__str__" kk 1 [0] Φ) (hr : Room (kk + 2) X.A) (hm : X.mg "str" = none) (hx : i ∈ Γ.X := by (try dsimp only); decide)
    (hN : X.N[i]? = some x := by rfl) (hv : Vis X.env.scope x := by first | exact Or.inl rfl | exact Or.inr (Or.inl rfl) | exact Or.inr (Or.inr rfl)) (hg : Gl X "str" := by rfl) (hd : (x == ("__debug__" : Str)) = false := by decide) (hcd : (x == ("__classdict__" : Str)) = false := by decide)
    (he : starEach [.Name x p] X.env = (false, eval (.Name x p) X.env) :: starEach [] X.env := by rfl) (hpl : (backTo pos (starEach [] X.env)).any (·.1) = false := by rfl) :
    GE X Γ W (.Call (.Name "str" apos) [.Name x p] [] pos) .all (sXstr Φ i) := by
  obtain ⟨fa, fd, ps, Fn, hmt, hb⟩ := Dm.ex
  have hr2 : Room kk X.A.in1.in1 := (Room.in1 (Room.in1 hr))
  have hc : CallR X (.type "str") (fun xs H Q => ∃ a dx fs, xs = [.ref a] ∧ H a = some (.ins Γ.C dx fs) ∧ spD Γ.C Γ.exc 1 [0] Φ [.ref a] H (fun v H' => ∃ z : Str, v = .str z ∧ Q (.str z) H') (fun _ _ _ => False)) := by
    intro pins s σ H xs us Q I r q
    obtain ⟨a, dx, fs, rfl, ha, q⟩ := q
    rw [Vals.ref1 r]
    obtain ⟨mA, J, _⟩ := ins_get I.hok ha
    obtain ⟨od, J, _⟩ := J.look
    refine PySem.W.kso_call hr2.units0 I.kIn J hmt.at_ hmt.fn ?_
    refine wpAny_mono (run_fnA (E := fun _ _ _ _ => False) (us := [Value.ref a]) (vs := [V.ref a]) Fn hr2 rfl hb (fun pins H s e s' I c => cx_no c) I (.cons rfl .nil) q) (fun u s' z => ?_) fun _ _ y => y
    obtain ⟨v, H', I', rv, z, rfl, q'⟩ := z
    obtain ⟨t, rfl⟩ := (show ∃ t, u = Value.str z t from rv)
    exact ⟨.str z, H', I', ⟨t, rfl⟩, q'⟩
  refine ⟨PE.weak (pe_callTy hc hg hm (by decide +kernel) (pa_cons (pe_var hN hv hd hcd) pa_nil he) (by decide) (by decide) he hpl) ?_⟩
  rintro σ H Q ⟨B, F, env, ok, h⟩
  unfold sXstr at h
  split at h
  · rename_i a0 b0 g0 k0 e0
    obtain ⟨v, e1, q, dx, l, t, rfl, hF, n1, n2, n3, hdx, hp, ht, hl⟩ := ok.atX hx e0
    refine ⟨_, e1, q, dx, _, rfl, hp, ?_⟩
    split at h
    · rename_i z xs hΦ
      have hf : Φ (fillX env [some i] [.non]) = .ok (.str z) xs := by simp only [fillX, e0]; exact hΦ
      refine own_step (W := W) ok hx e1 ⟨_, e0⟩ hf fun H' F' ok' g' v r => ?_
      cases (show v = V.str z from r)
      exact ⟨z, rfl, h H' F' ok' g' _ r⟩
    · exact h.elim
  · exact h.elim
end
end Ev

set_option Elab.async false
set_option linter.all false
set_option maxRecDepth 100000
set_option maxHeartbeats 4000000
/-! EvF: a tuple that is known as an object: index. -/
namespace Ev
open PySem L2
section
variable {X : Cx}
theorem flat_ints : ∀ ys : List Int, (ys.map V.int).all flatV = true
  | [] => rfl
  | _ :: ys => by rw [List.map_cons, List.all_cons, flat_ints ys]; rfl
def rIndexT (K : PySem.W.Frag) : V → List V → Hp → VK → Prop := fun x xs H Q => ∃ p, ∃ ys : List Int, ∃ z j, x = .ref p ∧ xs = [.int z] ∧ SqT K H p (ys.map V.int) ∧ ys[j]? = some z ∧ (∀ m, m < j → ys[m]? ≠ some z) ∧ Q (.int (j : Nat)) H
theorem mt_tup_indexI : MtR X "tuple.index" (rIndexT X.K) := by
  intro pins s σ H x xs v us Q I rx rs h
  obtain ⟨p, ys, z, j, rfl, rfl, hq, hy, hno, q⟩ := h
  cases rx
  obtain ⟨u, rfl, t, rfl⟩ := vals1 rs
  obtain ⟨its, r, pl, hz⟩ := I.tuple hq
  obtain ⟨⟨cls, dd, dt, sl⟩, ho, hc, n, hd⟩ := pl
  simp only at hc hd
  subst hc
  subst hd
  have hl : its.toArray.size = ys.length := by rw [List.size_toArray, ← r.length, List.length_map]
  have hj : j < its.toArray.size := by rw [hl]; exact (List.getElem?_eq_some_iff.mp hy).1
  have at' : ∀ (m : Nat) (hm : m < its.toArray.size), ∃ y t', ys[m]? = some y ∧ its.toArray[m] = Value.int y t' := fun m hm => by
    have hm' : m < ys.length := by rw [← hl]; exact hm
    obtain ⟨w, hw, t', hw'⟩ := r.get (i := m) (x := .int ys[m]) (by simp [hm'])
    refine ⟨ys[m], t', List.getElem?_eq_getElem hm', ?_⟩
    have e := (List.getElem?_eq_some_iff.mp hw).2
    rw [← hw', ← e]
    simp
  refine call_meets PySem.F.slot_tuple_index ⟨_, ho, rfl⟩ PySem.F.entry_tuple_index (PySem.F.args_tuple_index_2 _ _) (TI.tuple_indexAt p its.toArray n dd sl (.int z t) (eqU (.int z)) j hj ?_ ?_)
    ⟨ho, fun w hw => mem_eqAt (x := .int z) ⟨t, rfl⟩ rfl r (flat_ints ys) w (by simpa using hw), ⟨.int (j : Nat), H, I.tok _, ⟨_, rfl⟩, q⟩⟩
  · obtain ⟨y, t', h1, h2⟩ := at' j hj
    rw [hy] at h1
    cases h1
    rw [h2]
    show (z == z) = true
    exact beq_self_eq_true z
  · intro m hm hmj
    obtain ⟨y, t', h1, h2⟩ := at' m hm
    rw [h2]
    show (y == z) = false
    exact beq_eq_false_iff_ne.mpr fun e => hno m hmj (e ▸ h1)
def fstI (z : Int) : List Int → Option Nat
  | [] => none
  | x :: xs => if x = z then some 0 else (fstI z xs).map (· + 1)
theorem fstI_ok (z : Int) : ∀ {xs : List Int} {j : Nat}, fstI z xs = some j → xs[j]? = some z ∧ ∀ m, m < j → xs[m]? ≠ some z
  | [], j, h => by cases h
  | x :: xs, j, h => by
    rw [fstI] at h
    split at h
    · rename_i e
      cases h
      subst e
      exact ⟨rfl, fun m hm => by omega⟩
    · rename_i e
      cases q : fstI z xs with
      | none => rw [q] at h; cases h
      | some k =>
        rw [q] at h
        cases h
        obtain ⟨h1, h2⟩ := fstI_ok z q
        refine ⟨h1, fun m hm => ?_⟩
        cases m with
        | zero => exact fun w => e (Option.some.inj w)
        | succ m => exact h2 m (show m < k from Nat.lt_of_succ_lt_succ hm)
def oIndexT : D → D → Option D
  | .tup ds, .int z => (ints? ds).bind fun xs => (fstI z xs).map fun n => .int n
  | _, _ => none
end

section
open PySem.Spec PyProof.Rows PySem.Calls
variable {X : Cx} {o e : Expr} {es : List Expr} {to : TE} {t : TA} {name : Str} {apos cpos : Pos} {id : String} {r : V → List V → Hp → VK → Prop}
/-- o.name(e, ..) where o is a tuple that is known as an object -/
def tBMF (r : V → List V → Hp → VK → Prop) (to : TE) (t : TA) : TE := fun σ H Q => to σ H fun x H1 => (∃ p xs o, x = .ref p ∧ H1 p = some (.frz o (.tup xs)) ∧ o.dict = none) ∧ t σ H1 fun xs H2 => r x xs H2 Q
theorem pe_bmF (pa : PlainAttrs "tuple") (slot : Slot "tuple" name id) (hty : typeOf (.builtin id) = pure (.type "method_descriptor")) (hm : MtR X id r) (ho : PE X o to) (ha : PA X (e :: es) t)
    (hbase : attributeBase o name X.env (eval o X.env) = eval o X.env := by rfl)
    (hfew : ((backTo cpos (starEach (e :: es) X.env)).all (fun x => !x.1) && (backToKw cpos (keywordEach [] X.env)).all (fun x => x.1.isSome)
      && decide ((e :: es).length + ([] : List Keyword).length + (if ([] : List Keyword).isEmpty then 0 else 1) < 30)) = true := by rfl)
    (hline : (apos.endLine == cpos.line) = true := by rfl) (hs : starEach (e :: es) X.env = (false, eval e X.env) :: starEach es X.env := by rfl) (hplain : (backTo cpos (starEach es X.env)).any (·.1) = false := by rfl) :
    PE X (.Call (.Attribute o name apos) (e :: es) [] cpos) (tBMF r to t) := by
  refine ⟨fun pins s σ H Q I h => ?_⟩
  refine wpAny_Call_method_late hbase hfew hline rfl (thn (ho.run pins s σ H _ I h) fun v s1 ⟨x, H1, I1, r1, ⟨p, xs, ob, ex, ep, ed⟩, q1⟩ => ?_)
  subst ex
  obtain rfl : v = .ref p := r1
  obtain ⟨g1, _, its, rv, o', g2, hc, n, hd⟩ := (show ObjOk X.prog X.w H1 s1.heap p (.frz ob (.tup xs)) from I1.hok p _ ep)
  refine ⟨"tuple", id, pa, slot, hty, ⟨o', g2, hc⟩, fun a ea => ?_, ?_⟩
  · cases ea
    exact ⟨ob, g1, ed⟩
  have hA := ha.run cpos pins s1 σ H1 _ I1 q1
  rw [hs] at hA ⊢
  refine Calls.callWith_builtin (by show (false || (backTo cpos (starEach es X.env)).any (·.1)) = false; rw [hplain] <;> rfl) (Calls.evalArgs_plain ?_)
  exact thn hA fun us s2 ⟨vs, H2, I2, r2, q2⟩ => hm pins s2 σ H2 (.ref p) vs (.ref p) us Q I2 rfl r2 q2
/-- tuple(a list): a new tuple, known as an object -/
theorem call_tupleF : CallR X (.type "tuple") (fun xs H Q => ∃ p ys, xs = [.ref p] ∧ SqL X.K H p ys ∧ ∀ l o, H l = none → o.dict = none → Q (.ref l) (upd H l (.frz o (.tup ys)))) := by
  intro pins s σ H xs us Q I r h
  obtain ⟨p, ys, rfl, hs, q⟩ := h
  rw [Vals.ref1 r]
  obtain ⟨its, rv, pl, hz⟩ := I.list hs
  refine call_tuple_list pl.isList (fun h' hk => ?_) (by rw [List.size_toArray, ← rv.length]; exact hz)
  have I1 : Inv X pins σ H { s with heap := h' } := I.kept (t' := s.toks) hk
  have I2 : Inv X pins σ (upd H h'.objs.size (.frz { cls := .type "tuple", data := .seq its.toArray } (.tup ys))) { s with heap := h'.push { cls := .type "tuple", data := .seq its.toArray } } :=
    I1.laid (t' := s.toks) (fun b o e => Heap.get?_push_of_some _ e) (Nat.le_refl _) (show ObjOk X.prog X.w _ _ _ (.frz _ (.tup ys)) from ⟨Heap.get?_push_size _ rfl, hz, its, rv, IsTup.new _ _⟩)
  exact ⟨.ref h'.objs.size, _, I2, rfl, q _ _ (I1.hok.fresh (Nat.le_refl _)) rfl⟩
end
section
variable {X : Cx} {Γ : Cy} {W : WX} {o e : Expr} {ko k : Fk} {f fo fe : En → Out D} {apos cpos : Pos}
theorem RepK.ftp {Γ : Cy} {k : Fk} {Hs H : Hp} {F : Fp} {ds : List D} {v : V} (r : RepK Γ k Hs F H (.ftp ds) v) : ∃ a xs o L, v = .ref a ∧ H a = some (.frz o (.tup xs)) ∧ o.dict = none ∧ Reps H L ds xs := by
  cases k <;> (obtain ⟨a, xs, o, e, h1, h2, h3⟩ := r; exact ⟨a, xs, o, _, e, h1, h2, h3⟩)
@[simp] def sThaw (f : En → Out D) : En → Out D := fun e => (f e).bind fun d e1 => match d with
  | .ftp ds => .ok (.tup ds) e1
  | _ => .stuck
theorem ge_thaw (he : GE X Γ W e k f) : GE X Γ W e k (sThaw f) := by
  refine ⟨PE.weak he.pe ?_⟩
  rintro σ H Q ⟨B, F, env, ok, h⟩
  refine ⟨B, F, env, ok, oE.imp (oE.bind h) fun d e1 H1 F1 _ _ ⟨ok1, g1, h1⟩ v rv => ?_⟩
  cases d with
  | ftp ds =>
    refine h1.here ok1 _ ?_
    cases k <;> (obtain ⟨a, xs, o, e, q1, q2, q3⟩ := rv; exact ⟨a, xs, e, .inr ⟨o, q1⟩, q3⟩)
  | _ => exact h1.elim
@[simp] def sTm (f g : En → Out D) : En → Out D := fun e => (f e).bind fun x e1 => match x with
  | .ftp ds => (g e1).bind fun y e2 => lift (oIndexT (.tup ds) y) e2
  | _ => .stuck
theorem ge_tindex (ho : GE X Γ W o ko fo) (he : GE X Γ W e k fe)
    (hPE : ∀ {ta : TE} {t : TA}, PE X o ta → PA X [e] t → PE X (.Call (.Attribute o "index" apos) [e] [] cpos) (tBMF (rIndexT X.K) ta t) := by exact fun h1 h2 => pe_bmF PySem.F.plainAttrs_tuple PySem.F.slot_tuple_index PySem.F.type_tuple_index mt_tup_indexI h1 h2)
    (hs1 : starEach [e] X.env = (false, eval e X.env) :: starEach [] X.env := by rfl) : GE X Γ W (.Call (.Attribute o "index" apos) [e] [] cpos) .all (sTm fo fe) := by
  refine ⟨PE.weak (hPE ho.pe (pa_cons he.pe pa_nil hs1)) ?_⟩
  rintro σ H Q ⟨B, F, env, ok, h⟩
  refine ⟨B, F, env, ok, oE.imp (oE.bind h) fun x e1 H1 F1 _ _ ⟨ok1, g1, h1⟩ u ru => ?_⟩
  cases x with
  | ftp ds =>
    obtain ⟨a, xs, ob, L, rfl, hA, hD, rA⟩ := RepK.ftp ru
    refine ⟨⟨a, xs, ob, rfl, hA, hD⟩, B, F1, e1, ok1, oE.imp (oE.bind h1) fun y e2 H2 F2 _ _ ⟨ok2, g2, h2⟩ v rv => ?_⟩
    obtain ⟨a', xs', ob', L', e3, hA', hD', rA'⟩ := RepK.ftp (g2.repK (k := ko) ru)
    cases e3
    cases y with
    | int z =>
      have rv' : v = V.int z := rv.x
      subst rv'
      cases q2 : oIndexT (.tup ds) (.int z) with
      | none => simp only [q2] at h2; exact h2.elim
      | some d =>
        simp only [q2] at h2
        unfold oIndexT at q2
        cases q1 : ints? ds with
        | none => simp only [q1] at q2; cases q2
        | some ys =>
          simp only [q1, Option.bind_some] at q2
          cases q3 : fstI z ys with
          | none => rw [q3] at q2; cases q2
          | some j =>
            rw [q3] at q2
            cases q2
            rw [ints?_eq q1] at rA'
            have er := Reps.ints rA'
            subst er
            obtain ⟨z1, z2⟩ := fstI_ok z q3
            exact ⟨a, ys, z, j, rfl, rfl, SqT.rd (.inr ⟨_, hA'⟩), z1, z2, h2.here ok2 _ rfl⟩
    | non => simp only [oIndexT] at h2; exact h2.elim
    | bl _ => simp only [oIndexT] at h2; exact h2.elim
    | str _ => simp only [oIndexT] at h2; exact h2.elim
    | tup _ => simp only [oIndexT] at h2; exact h2.elim
    | lst _ => simp only [oIndexT] at h2; exact h2.elim
    | raw _ => simp only [oIndexT] at h2; exact h2.elim
    | ftp _ => simp only [oIndexT] at h2; exact h2.elim
    | scr _ _ => simp only [oIndexT] at h2; exact h2.elim
    | town _ => simp only [oIndexT] at h2; exact h2.elim
    | cut _ _ _ _ => simp only [oIndexT] at h2; exact h2.elim
    | dct _ => simp only [oIndexT] at h2; exact h2.elim
  | _ => exact h1.elim
@[simp] def oTupleF : List D → Option D
  | [.lst ds] => some (.ftp ds)
  | _ => none
theorem h_tupleF : HCall (fun xs H Q => ∃ p ys, xs = [.ref p] ∧ SqL X.K H p ys ∧ ∀ l o, H l = none → o.dict = none → Q (.ref l) (upd H l (.frz o (.tup ys)))) oTupleF .bor := fun ds d q Γ al Hs F H vs Q nf rv k => by
  unfold oTupleF at q
  split at q
  · rename_i es
    cases q
    obtain ⟨v, rfl, h⟩ := rv.lbX.one_inv
    obtain ⟨a, xs, rfl, hA, _, rA⟩ := h
    exact ⟨a, xs, rfl, SqL.of hA, fun l ob hl hd => k _ _ (same_upd hl) ⟨l, xs, ob, rfl, upd_same, hd, rA.same (same_upd hl)⟩⟩
  · cases q
end
end Ev

set_option Elab.async false
set_option linter.all false
set_option maxRecDepth 100000
set_option maxHeartbeats 4000000
/-! What the defs that the laws share compute. -/
namespace Ev
open PySem L2
def f_is_integer : En → Out Fl :=
  (sRet .all (sAnd (s1 (oIsi .int) (sVar 0)) (sAnd (sNot (s1 (oIsi .bool) (sVar 0))) (sChain oLe oLe (sVar 1) (sVar 0) (sVar 2)))))
def Φ_is_integer (ds : List D) : COut := outC [] 3 (f_is_integer (initE 3 ds))

def f_divisor_of : En → Out Fl :=
  (sSeq2 (whRun (sB (s2 oGt (sVar 1) (sC (.int 0)))) (sPar 0 1 .var .all (sVar 1) (s2 oMod (sVar 0) (sVar 1))) fuelW)
  (sRet .var (sVar 0)))
def Φ_divisor_of (ds : List D) : COut := outC [] 2 (f_divisor_of (initE 2 ds))

def f_is_sum : En → Out Fl :=
  (sSeq2 (sIfS (sNotT (sB (s1 (oIsi .tuple) (sVar 0)))) (sRet .all (sC (.bl false))) sNx)
  (sSeq2 (sIfS (sNotT (sB (sCall oAll (sCons (sLc .all [1] (sSeq .var (sVar 0)) (gN 1) sYes (sAnd (s1 (oIsi .int) (sVar 1)) (sAnd (sNot (s1 (oIsi .bool) (sVar 1))) (s2 oGt (sVar 1) (sC (.int 1)))))) sNil)))) (sRet .all (sC (.bl false))) sNx)
  (sRet .all (sCall oAll (sCons (sLc .all [2, 3] (sZip .var .out (sVar 0) (sCut (sVar 0) (sPart (sC (.int 1))) sNoPart)) (gTupD 2 (gCons' (gN 2) (gCons' (gN 3) gNil'))) sYes (s2 oLt (sVar 2) (sVar 3))) sNil)))))
def Φ_is_sum (ds : List D) : COut := outC [] 1 (f_is_sum (initE 4 ds))

noncomputable def f_law_cell_at (K : PySem.W.Frag) : En → Out Fl :=
  (sSeq2 (sIfS (sB (s2 oLt (sVar 1) (sCall (oScrLen K) (sCons (sVar 0) sNil)))) (sRet .var (s2 (oScrIx K) (sVar 0) (sVar 1))) sNx)
  (sSeq2 (sIfS (sB (s2 (oScrEq K) (sVar 0) (sLst sNil))) (sRet .all (sC (.int 0))) sNx)
  (sSeq2 (sSet 2 .var (s2 (oScrIx K) (sVar 0) (s2 oMod (sVar 1) (sCall (oScrLen K) (sCons (sVar 0) sNil)))))
  (sSeq2 (sFor (sRange1 (sCons (sCall oMin2 (sCons (s2 oDiv (sVar 1) (sCall (oScrLen K) (sCons (sVar 0) sNil))) (sCons (sC (.int 60)) sNil))) sNil)) (gN 3) (sSet 2 .all (s2 oDiv (sVar 2) (sC (.int 1000003)))))
  (sRet .out (s2 dAdd (s2 dAdd (s2 dMul (s2 (oScrIx K) (sVar 0) (s2 oMod (sVar 1) (sCall (oScrLen K) (sCons (sVar 0) sNil)))) (sC (.int 31))) (sVar 1)) (s2 dMul (sVar 2) (sC (.int 101)))))))))
noncomputable def Φ_law_cell_at (K : PySem.W.Frag) (ds : List D) : COut := outC [] 2 (f_law_cell_at K (initE 4 ds))

def f_law_same_truth : En → Out Fl :=
  (sRet .all (sAnd (s1 (oIsi .bool) (sVar 0)) (s2 oEq (sVar 0) (sVar 1))))
def Φ_law_same_truth (ds : List D) : COut := outC [] 2 (f_law_same_truth (initE 2 ds))

def f_law_shared : En → Out Fl :=
  (sSeq2 (whRun (sB (s2 oGt (sVar 1) (sC (.int 0)))) (sPar 0 1 .var .all (sVar 1) (s2 oMod (sVar 0) (sVar 1))) fuelW)
  (sRet .var (sVar 0)))
def Φ_law_shared (ds : List D) : COut := outC [] 2 (f_law_shared (initE 2 ds))

def f_is_fraction : En → Out Fl :=
  (sSeq2 (sIfS (sOrT (sNotT (sB (s1 (oIsi .tuple) (sVar 0)))) (sOrT (sB (s2 oNe (sCall oLen (sCons (sVar 0) sNil)) (sC (.int 2)))) (sNotT (sB (sCallF Φ_is_integer [none, none, none] (sCons (s2 dIx (sVar 0) (sC (.int 1))) (sCons (sC (.int 2)) (sCons (sC (.int 30)) sNil)))))))) (sRet .all (sC (.bl false))) sNx)
  (sRet .all (sAnd (sCallF Φ_is_integer [none, none, none] (sCons (s2 dIx (sVar 0) (sC (.int 0))) (sCons (sC (.int 1)) (sCons (s2 oSub (s2 dIx (sVar 0) (sC (.int 1))) (sC (.int 1))) sNil)))) (s2 oEq (sCallF Φ_divisor_of [none, none] (sCons (s2 dIx (sVar 0) (sC (.int 1))) (sCons (s2 dIx (sVar 0) (sC (.int 0))) sNil))) (sC (.int 1))))))
def Φ_is_fraction (ds : List D) : COut := outC [] 1 (f_is_fraction (initE 1 ds))

def f_check_sum : En → Out Fl :=
  (sIfS (sOrT (sNotT (sB (sCallF Φ_is_sum [none] (sCons (sVar 0) sNil)))) (sOrT (sB (s2 oGt (sCall oLen (sCons (sVar 0) sNil)) (sVar 1))) (sNotT (sB (sCall oAll (sCons (sLc .all [3] (sSeq .var (sVar 0)) (gN 3) sYes (s2 oLe (sVar 3) (sVar 2))) sNil)))))) (sRaise 1) sNx)
def Φ_check_sum (ds : List D) : COut := outC [] 3 (f_check_sum (initE 4 ds))

def f_lowest : En → Out Fl :=
  (sSeq2 (sSet 2 .all (sCallF Φ_divisor_of [none, none] (sCons (sVar 1) (sCons (sVar 0) sNil))))
  (sRet .all (sTup (sCons (s2 oDiv (sVar 0) (sVar 2)) (sCons (s2 oDiv (sVar 1) (sVar 2)) sNil)))))
def Φ_lowest (ds : List D) : COut := outC [] 2 (f_lowest (initE 3 ds))

noncomputable def f_law_mixed (K : PySem.W.Frag) : En → Out Fl :=
  (sSeq2 (sSet 3 .all (s2 oMod (s2 dAdd (s2 dAdd (s2 dMul (sCallF (Φ_law_cell_at K) [none, none] (sCons (sVar 0) (sCons (sVar 1) sNil))) (sC (.int 1103515245))) (s2 dMul (sC (.int 7919)) (sVar 1))) (sC (.int 12345))) (sC (.int 2147483647))))
  (sRet .all (s2 oMod (s2 oMod (s2 oMod (s2 oPow (sVar 3) (sC (.int 5))) (sC (.int 2147483647))) (sC (.int 999983))) (sVar 2))))
noncomputable def Φ_law_mixed (K : PySem.W.Frag) (ds : List D) : COut := outC [] 3 (f_law_mixed K (initE 4 ds))

def f_law_lowest : En → Out Fl :=
  (sSeq2 (sSet 2 .all (sCallF Φ_law_shared [none, none] (sCons (sVar 1) (sCons (sVar 0) sNil))))
  (sRet .all (sTup (sCons (s2 oDiv (sVar 0) (sVar 2)) (sCons (s2 oDiv (sVar 1) (sVar 2)) sNil)))))
def Φ_law_lowest (ds : List D) : COut := outC [] 2 (f_law_lowest (initE 3 ds))

def f_check_fraction : En → Out Fl :=
  (sIfS (sNotT (sB (sCallF Φ_is_fraction [none] (sCons (sVar 0) sNil)))) (sRaise 0) sNx)
def Φ_check_fraction (ds : List D) : COut := outC [] 1 (f_check_fraction (initE 1 ds))

def f_total_of : En → Out Fl :=
  (sSeq2 (sSet 1 .all (sTup (sCons (sC (.int 0)) (sCons (sC (.int 1)) sNil))))
  (sSeq2 (sFor (sSeq .var (sVar 0)) (gN 2) (sSet 1 .all (sCallF Φ_lowest [none, none] (sCons (s2 dAdd (s2 dMul (s2 dIx (sVar 1) (sC (.int 0))) (sVar 2)) (s2 dIx (sVar 1) (sC (.int 1)))) (sCons (s2 dMul (s2 dIx (sVar 1) (sC (.int 1))) (sVar 2)) sNil)))))
  (sRet .var (sVar 1))))
def Φ_total_of (ds : List D) : COut := outC [] 1 (f_total_of (initE 3 ds))

noncomputable def f_law_draw (K : PySem.W.Frag) : En → Out Fl :=
  (sSeq2 (sTownAdd 1)
  (sRet .all (sCallF (Φ_law_mixed K) [none, none, none] (sCons (sVar 0) (sCons (sTownLen 1) (sCons (sVar 2) sNil))))))
noncomputable def Φ_law_draw (K : PySem.W.Frag) (ds : List D) : COut := outC [1] 3 (f_law_draw K (initE 3 ds))

def f_law_added : En → Out Fl :=
  (sSeq2 (sAsg .all (sTup (sCons (sC (.int 0)) (sCons (sC (.int 1)) sNil))) (gTupD 2 (gCons' (gN 1) (gCons' (gN 2) gNil'))))
  (sSeq2 (sFor (sSeq .var (sVar 0)) (gN 3) (sPar 1 2 .out .out (s2 dAdd (s2 dMul (sVar 1) (sVar 3)) (sVar 2)) (s2 dMul (sVar 2) (sVar 3))))
  (sRet .all (sCallF Φ_law_lowest [none, none] (sCons (sVar 1) (sCons (sVar 2) sNil))))))
def Φ_law_added (ds : List D) : COut := outC [] 1 (f_law_added (initE 4 ds))

def f_law_greedy_way : En → Out Fl :=
  (sSeq2 (sAsg .var (sVar 0) (gTupD 2 (gCons' (gN 1) (gCons' (gN 2) gNil'))))
  (sSeq2 (sSetM 3 (sLim sNil))
  (sSeq2 (whRun (sB (s2 oGt (sVar 1) (sC (.int 0)))) (sSeq2 (sSet 4 .all (s2 oDiv (s2 oSub (s2 dAdd (sVar 2) (sVar 1)) (sC (.int 1))) (sVar 1)))
  (sSeq2 (sApp 3 (sVar 4))
  (sAsg .all (sCallF Φ_law_lowest [none, none] (sCons (s2 oSub (s2 dMul (sVar 1) (sVar 4)) (sVar 2)) (sCons (s2 dMul (sVar 2) (sVar 4)) sNil))) (gTupD 2 (gCons' (gN 1) (gCons' (gN 2) gNil')))))) fuelW)
  (sRet .bor (sCall oTupleOf (sCons (sVar 3) sNil))))))
def Φ_law_greedy_way (ds : List D) : COut := outC [] 1 (f_law_greedy_way (initE 5 ds))

def f_total : En → Out Fl :=
  (sSeq2 (sDrop (sCallF Φ_check_sum [none, none, none] (sCons (sVar 0) (sCons (sC (.int 12)) (sCons (sC (.int 9999)) sNil)))))
  (sRet .all (sCallF Φ_total_of [none] (sCons (sVar 0) sNil))))
def Φ_total (ds : List D) : COut := outC [] 1 (f_total (initE 1 ds))

def f_is_sum_of : En → Out Fl :=
  (sSeq2 (sDrop (sCallF Φ_check_fraction [none] (sCons (sVar 0) sNil)))
  (sRet .all (sAnd (sCallF Φ_is_sum [none] (sCons (sVar 1) sNil)) (s2 oEq (sCallF Φ_total_of [none] (sCons (sVar 1) sNil)) (sVar 0)))))
def Φ_is_sum_of (ds : List D) : COut := outC [] 2 (f_is_sum_of (initE 2 ds))

noncomputable def f_law_pick (K : PySem.W.Frag) : En → Out Fl :=
  (sRet .var (s2 dIx (sVar 2) (sCallF (Φ_law_draw K) [none, some 1, none] (sCons (sVar 0) (sConsX 1 (sCons (sCall oLen (sCons (sVar 2) sNil)) sNil))))))
noncomputable def Φ_law_pick (K : PySem.W.Frag) (ds : List D) : COut := outC [1] 3 (f_law_pick K (initE 3 ds))

noncomputable def f_law_some_share (K : PySem.W.Frag) : En → Out Fl :=
  (sSeq2 (sSet 2 .all (s2 dAdd (sC (.int 2)) (sCallF (Φ_law_draw K) [none, some 1, none] (sCons (sVar 0) (sConsX 1 (sCons (sC (.int 29)) sNil))))))
  (sRet .bor (sTup (sCons (sCallF (Φ_law_pick K) [none, some 1, none] (sCons (sVar 0) (sConsX 1 (sCons (sLc .var [3] (sRange2 (sCons (sC (.int 1)) (sCons (sVar 2) sNil))) (gN 3) (sB (s2 oEq (sCallF Φ_law_shared [none, none] (sCons (sVar 2) (sCons (sVar 3) sNil))) (sC (.int 1)))) (sVar 3)) sNil)))) (sCons (sVar 2) sNil)))))
noncomputable def Φ_law_some_share (K : PySem.W.Frag) (ds : List D) : COut := outC [1] 2 (f_law_some_share K (initE 4 ds))

def f_law_ask : En → Out Fl :=
  (sTry 1 (sRet .all (sCallF Φ_total [none] (sCons (sVar 0) sNil))))
def Φ_law_ask (ds : List D) : COut := outC [] 1 (f_law_ask (initE 2 ds))

def f_greatest_in : En → Out Fl :=
  (sRet .all (s2 oDiv (s2 oSub (s2 dAdd (s2 dIx (sVar 0) (sC (.int 1))) (s2 dIx (sVar 0) (sC (.int 0)))) (sC (.int 1))) (s2 dIx (sVar 0) (sC (.int 0)))))
def Φ_greatest_in (ds : List D) : COut := outC [] 1 (f_greatest_in (initE 1 ds))

def f_law_same_number : En → Out Fl :=
  (sRet .all (sAnd (s1 (oIsi .int) (sVar 0)) (sAnd (sNot (s1 (oIsi .bool) (sVar 0))) (s2 oEq (sVar 0) (sVar 1)))))
def Φ_law_same_number (ds : List D) : COut := outC [] 2 (f_law_same_number (initE 2 ds))

def f_less_part : En → Out Fl :=
  (sRet .all (sCallF Φ_lowest [none, none] (sCons (s2 oSub (s2 dMul (s2 dIx (sVar 0) (sC (.int 0))) (sVar 1)) (s2 dIx (sVar 0) (sC (.int 1)))) (sCons (s2 dMul (s2 dIx (sVar 0) (sC (.int 1))) (sVar 1)) sNil))))
def Φ_less_part (ds : List D) : COut := outC [] 2 (f_less_part (initE 2 ds))

def f_greatest : En → Out Fl :=
  (sSeq2 (sDrop (sCallF Φ_check_fraction [none] (sCons (sVar 0) sNil)))
  (sRet .all (sCallF Φ_greatest_in [none] (sCons (sVar 0) sNil))))
def Φ_greatest (ds : List D) : COut := outC [] 1 (f_greatest (initE 1 ds))

def f_greedy : En → Out Fl :=
  (sSeq2 (sDrop (sCallF Φ_check_fraction [none] (sCons (sVar 0) sNil)))
  (sSeq2 (sParM 1 2 .var (sVar 0) (sLim sNil))
  (sSeq2 (whRun (sB (s2 oGt (s2 dIx (sVar 1) (sC (.int 0))) (sC (.int 0)))) (sSeq2 (sApp 2 (sCallF Φ_greatest_in [none] (sCons (sVar 1) sNil)))
  (sSet 1 .all (sCallF Φ_less_part [none, none] (sCons (sVar 1) (sCons (s2 dIx (sVar 2) (s1 oNeg (sC (.int 1)))) sNil))))) fuelW)
  (sRet .bor (sCall oTupleOf (sCons (sVar 2) sNil))))))
def Φ_greedy (ds : List D) : COut := outC [] 1 (f_greedy (initE 3 ds))

def f_law_ask_v1 : En → Out Fl :=
  (sTry 2 (sRet .all (sPick [Φ_greatest, Φ_greedy] [none] (sVar 0) (sCons (sVar 1) sNil))))
def Φ_law_ask_v1 (ds : List D) : COut := outC [] 2 (f_law_ask_v1 (initE 3 ds))

def f_pair_list : En → Out Fl :=
  (sSeq2 (sAsg .var (sVar 0) (gTupD 2 (gCons' (gN 2) (gCons' (gN 3) gNil'))))
  (sSeq2 (sSetM 4 (sLim sNil))
  (sSeq2 (sFor (sRange2 (sCons (sC (.int 1)) (sCons (sVar 3) sNil))) (gN 5) (sIfS (sAndT (sB (s2 oEq (s2 oMod (s2 dMul (sVar 3) (sVar 3)) (sVar 5)) (sC (.int 0)))) (sB (s2 oEq (s2 oMod (s2 dAdd (sVar 3) (sVar 5)) (sVar 2)) (sC (.int 0))))) (sSeq2 (sPar 6 7 .all .all (s2 oDiv (s2 dAdd (sVar 3) (sVar 5)) (sVar 2)) (s2 oDiv (s2 dAdd (sVar 3) (s2 oDiv (s2 dMul (sVar 3) (sVar 3)) (sVar 5))) (sVar 2)))
  (sIfS (sB (s2 oGt (sVar 6) (sVar 1))) (sApp 4 (sTup (sCons (sVar 6) (sCons (sVar 7) sNil)))) sNx)) sNx))
  (sRet .all (sCall oSorted (sCons (sVar 4) sNil))))))
def Φ_pair_list (ds : List D) : COut := outC [] 2 (f_pair_list (initE 8 ds))

def f_has_pair : En → Out Fl :=
  (sSeq2 (sDrop (sCallF Φ_check_fraction [none] (sCons (sVar 0) sNil)))
  (sRet .all (s2 oNe (sCallF Φ_pair_list [none, none] (sCons (sVar 0) (sCons (sC (.int 1)) sNil))) (sLst sNil))))
def Φ_has_pair (ds : List D) : COut := outC [] 1 (f_has_pair (initE 1 ds))

def f_pairs : En → Out Fl :=
  (sSeq2 (sDrop (sCallF Φ_check_fraction [none] (sCons (sVar 0) sNil)))
  (sRet .all (sCallF Φ_pair_list [none, none] (sCons (sVar 0) (sCons (sC (.int 1)) sNil)))))
def Φ_pairs (ds : List D) : COut := outC [] 1 (f_pairs (initE 1 ds))

def f_law_ask_v2 : En → Out Fl :=
  (sTry 2 (sRet .all (sPick [Φ_has_pair, Φ_pairs] [none] (sVar 0) (sCons (sVar 1) sNil))))
def Φ_law_ask_v2 (ds : List D) : COut := outC [] 2 (f_law_ask_v2 (initE 3 ds))

def f_law_twos : En → Out Fl :=
  (sSeq2 (sSetM 3 (sLim sNil))
  (sSeq2 (sFor (sRange2 (sCons (sCall oMax2 (sCons (s2 dAdd (sVar 2) (sC (.int 1))) (sCons (s2 oDiv (sVar 1) (sVar 0)) sNil))) (sCons (s2 dAdd (s2 oDiv (s2 dMul (sC (.int 2)) (sVar 1)) (sVar 0)) (sC (.int 1))) sNil))) (gN 4) (sSeq2 (sSet 5 .all (s2 oSub (s2 dMul (sVar 0) (sVar 4)) (sVar 1)))
  (sIfS (sAndT (sB (s2 oGt (sVar 5) (sC (.int 0)))) (sAndT (sB (s2 oEq (s2 oMod (s2 dMul (sVar 1) (sVar 4)) (sVar 5)) (sC (.int 0)))) (sB (s2 oGt (s2 oDiv (s2 dMul (sVar 1) (sVar 4)) (sVar 5)) (sVar 4))))) (sApp 3 (sTup (sCons (sVar 4) (sCons (s2 oDiv (s2 dMul (sVar 1) (sVar 4)) (sVar 5)) sNil)))) sNx)))
  (sRetM 3)))
def Φ_law_twos (ds : List D) : COut := outC [] 3 (f_law_twos (initE 6 ds))

def f_sum_list (Φself : List D → COut) : En → Out Fl :=
  (sSeq2 (sIfS (sB (s2 oEq (sVar 1) (sC (.int 1)))) (sRet .out (sIf (sAndT (sB (s2 oEq (s2 dIx (sVar 0) (sC (.int 0))) (sC (.int 1)))) (sB (s2 oGt (s2 dIx (sVar 0) (sC (.int 1))) (sVar 2)))) (sLst (sCons (sTup (sCons (s2 dIx (sVar 0) (sC (.int 1))) sNil)) sNil)) (sLst sNil))) sNx)
  (sSeq2 (sIfS (sB (s2 oEq (sVar 1) (sC (.int 2)))) (sSeq2 (sSetA 4 (sCallF Φ_pair_list [none, none] (sCons (sVar 0) (sCons (sVar 2) sNil))))
  (sIfS (sB (sVar 3)) (sRet .out (sCut (sVar 4) sNoPart (sPart (sC (.int 1))))) (sRetM 4))) sNx)
  (sSeq2 (sSetM 4 (sLim sNil))
  (sSeq2 (sSet 5 .all (sCall oMax2 (sCons (s2 dAdd (sVar 2) (sC (.int 1))) (sCons (sCallF Φ_greatest_in [none] (sCons (sVar 0) sNil)) sNil))))
  (sSeq2 (whRun (sAndT (sB (s2 oGt (s2 dMul (sVar 1) (s2 dIx (sVar 0) (sC (.int 1)))) (s2 dMul (s2 dIx (sVar 0) (sC (.int 0))) (sVar 5)))) (sNotT (sAndT (sB (sVar 3)) (sB (s2 oNe (sVar 4) (sLst sNil)))))) (sSeq2 (sSet 6 .all (sCallF Φ_less_part [none, none] (sCons (sVar 0) (sCons (sVar 5) sNil))))
  (sSeq2 (sIfS (sB (s2 oGt (s2 dIx (sVar 6) (sC (.int 0))) (sC (.int 0)))) (sExt 4 (sLc .out [7] (sSeq .all (sCallF Φself [none, none, none, none] (sCons (sVar 6) (sCons (s2 oSub (sVar 1) (sC (.int 1))) (sCons (sVar 5) (sCons (sVar 3) sNil)))))) (gN 7) sYes (s2 dAdd (sTup (sCons (sVar 5) sNil)) (sVar 7)))) sNx)
  (sAug 5 oAdd (sC (.int 1))))) fuelW)
  (sRetM 4))))))
def Φ_sum_list : Nat → List D → COut
  | 0, _ => .stuck
  | n + 1, ds => outC [] 4 (f_sum_list (Φ_sum_list n) (initE 8 ds))

def f_first_of : En → Out Fl :=
  (sSeq2 (sPar 1 2 .all .all (sC (.int 1)) (sLst sNil))
  (sSeq2 (whRun (sB (s2 oEq (sVar 2) (sLst sNil))) (sSeq2 (sSet 2 .all (sCallF (Φ_sum_list 10) [none, none, none, none] (sCons (sVar 0) (sCons (sVar 1) (sCons (sC (.int 1)) (sCons (sC (.bl true)) sNil))))))
  (sAug 1 oAdd (sC (.int 1)))) fuelW)
  (sRet .var (s2 dIx (sVar 2) (sC (.int 0))))))
def Φ_first_of (ds : List D) : COut := outC [] 1 (f_first_of (initE 3 ds))

def f_sums : En → Out Fl :=
  (sSeq2 (sDrop (sCallF Φ_check_fraction [none] (sCons (sVar 0) sNil)))
  (sSeq2 (sIfS (sNotT (sB (sCallF Φ_is_integer [none, none, none] (sCons (sVar 1) (sCons (sC (.int 1)) (sCons (sC (.int 3)) sNil)))))) (sRaise 2) sNx)
  (sRet .all (sCallF (Φ_sum_list 10) [none, none, none, none] (sCons (sVar 0) (sCons (sVar 1) (sCons (sC (.int 1)) (sCons (sC (.bl false)) sNil))))))))
def Φ_sums (ds : List D) : COut := outC [] 2 (f_sums (initE 2 ds))

def f_fewest : En → Out Fl :=
  (sSeq2 (sDrop (sCallF Φ_check_fraction [none] (sCons (sVar 0) sNil)))
  (sRet .all (sCall oLen (sCons (sCallF Φ_first_of [none] (sCons (sVar 0) sNil)) sNil))))
def Φ_fewest (ds : List D) : COut := outC [] 1 (f_fewest (initE 1 ds))

def f_first_sum : En → Out Fl :=
  (sSeq2 (sDrop (sCallF Φ_check_fraction [none] (sCons (sVar 0) sNil)))
  (sRet .all (sCallF Φ_first_of [none] (sCons (sVar 0) sNil))))
def Φ_first_sum (ds : List D) : COut := outC [] 1 (f_first_sum (initE 1 ds))

def f_law_ask_v3 : En → Out Fl :=
  (sTry 2 (sRet .all (sCallF Φ_sums [none, none] (sCons (sVar 0) (sCons (sVar 1) sNil)))))
def Φ_law_ask_v3 (ds : List D) : COut := outC [] 2 (f_law_ask_v3 (initE 3 ds))

def f_small_list : En → Out Fl :=
  (sSeq2 (sParM 2 3 .out (sLst (sCons (sTup (sCons (sVar 0) (sCons (sTup sNil) sNil))) sNil)) (sLim sNil))
  (sSeq2 (sFor (sRange2 (sCons (sC (.int 2)) (sCons (s2 dAdd (sVar 1) (sC (.int 1))) sNil))) (gN 4) (sSeq2 (sSetM 5 (sLim sNil))
  (sSeq2 (sFor (sSeq .var (sVar 2)) (gTupD 2 (gCons' (gN 6) (gCons' (gN 7) gNil'))) (sSeq2 (sApp 5 (sTup (sCons (sVar 6) (sCons (sVar 7) sNil))))
  (sIfS (sB (s2 oGe (s2 dMul (s2 dIx (sVar 6) (sC (.int 0))) (sVar 4)) (s2 dIx (sVar 6) (sC (.int 1))))) (sSeq2 (sSet 8 .all (sCallF Φ_less_part [none, none] (sCons (sVar 6) (sCons (sVar 4) sNil))))
  (sIfS (sB (s2 oEq (s2 dIx (sVar 8) (sC (.int 0))) (sC (.int 0)))) (sApp 3 (s2 dAdd (sVar 7) (sTup (sCons (sVar 4) sNil)))) (sApp 5 (sTup (sCons (sVar 8) (sCons (s2 dAdd (sVar 7) (sTup (sCons (sVar 4) sNil))) sNil)))))) sNx)))
  (sMove 2 5))))
  (sRet .all (sCall oSorted (sCons (sVar 3) sNil)))))
def Φ_small_list (ds : List D) : COut := outC [] 2 (f_small_list (initE 9 ds))

def f_small_sums : En → Out Fl :=
  (sSeq2 (sDrop (sCallF Φ_check_fraction [none] (sCons (sVar 0) sNil)))
  (sSeq2 (sIfS (sNotT (sB (sCallF Φ_is_integer [none, none, none] (sCons (sVar 1) (sCons (sC (.int 2)) (sCons (sC (.int 16)) sNil)))))) (sRaise 2) sNx)
  (sRet .all (sCallF Φ_small_list [none, none] (sCons (sVar 0) (sCons (sVar 1) sNil))))))
def Φ_small_sums (ds : List D) : COut := outC [] 2 (f_small_sums (initE 2 ds))

def f_least_last : En → Out Fl :=
  (sSeq2 (sDrop (sCallF Φ_check_fraction [none] (sCons (sVar 0) sNil)))
  (sSeq2 (sSet 1 .all (sLc .var [2] (sSeq .all (sCallF Φ_small_list [none, none] (sCons (sVar 0) (sCons (sC (.int 16)) sNil)))) (gN 2) sYes (s2 dIx (sVar 2) (s1 oNeg (sC (.int 1))))))
  (sRet .all (sIf (sB (s2 oNe (sVar 1) (sLst sNil))) (sCall oMin (sCons (sVar 1) sNil)) (sC .non)))))
def Φ_least_last (ds : List D) : COut := outC [] 1 (f_least_last (initE 3 ds))

def f_law_ask_v4 : En → Out Fl :=
  (sTry 2 (sRet .all (sCallF Φ_small_sums [none, none] (sCons (sVar 0) (sCons (sVar 1) sNil)))))
def Φ_law_ask_v4 (ds : List D) : COut := outC [] 2 (f_law_ask_v4 (initE 3 ds))

def f_can_split : En → Out Fl :=
  (sRet .all (sAnd (s2 oNotIn (s2 dAdd (sVar 1) (sC (.int 1))) (sVar 0)) (s2 oNotIn (s2 dMul (sVar 1) (s2 dAdd (sVar 1) (sC (.int 1)))) (sVar 0))))
def Φ_can_split (ds : List D) : COut := outC [] 2 (f_can_split (initE 2 ds))

def f_split : En → Out Fl :=
  (sSeq2 (sDrop (sCallF Φ_check_sum [none, none, none] (sCons (sVar 0) (sCons (sC (.int 11)) (sCons (sC (.int 99)) sNil)))))
  (sSeq2 (sIfS (sOrT (sNotT (sB (sCallF Φ_is_integer [none, none, none] (sCons (sVar 1) (sCons (sC (.int 2)) (sCons (sC (.int 99)) sNil)))))) (sB (s2 oNotIn (sVar 1) (sVar 0)))) (sRaise 3) sNx)
  (sSeq2 (sIfS (sNotT (sB (sCallF Φ_can_split [none, none] (sCons (sVar 0) (sCons (sVar 1) sNil))))) (sRaise 4) sNx)
  (sSeq2 (sSet 2 .bor (sCall oTupleOf (sCons (sLc .var [3] (sSeq .var (sVar 0)) (gN 3) (sB (s2 oNe (sVar 3) (sVar 1))) (sVar 3)) sNil)))
  (sRet .bor (sCall oTupleOf (sCons (sCall oSorted (sCons (s2 dAdd (sVar 2) (sTup (sCons (s2 dAdd (sVar 1) (sC (.int 1))) (sCons (s2 dMul (sVar 1) (s2 dAdd (sVar 1) (sC (.int 1)))) sNil)))) sNil)) sNil)))))))
def Φ_split (ds : List D) : COut := outC [] 2 (f_split (initE 4 ds))

def f_splittable : En → Out Fl :=
  (sSeq2 (sDrop (sCallF Φ_check_sum [none, none, none] (sCons (sVar 0) (sCons (sC (.int 11)) (sCons (sC (.int 99)) sNil)))))
  (sRet .all (sLc .var [1] (sSeq .var (sVar 0)) (gN 1) (sB (sCallF Φ_can_split [none, none] (sCons (sVar 0) (sCons (sVar 1) sNil)))) (sVar 1))))
def Φ_splittable (ds : List D) : COut := outC [] 1 (f_splittable (initE 2 ds))

def f_law_ask_v5 : En → Out Fl :=
  (sTry 2 (sRet .all (sCallF Φ_split [none, none] (sCons (sVar 0) (sCons (sVar 1) sNil)))))
def Φ_law_ask_v5 (ds : List D) : COut := outC [] 2 (f_law_ask_v5 (initE 3 ds))

def f_law_list : En → Out Fl :=
  (sTry 1 (sRet .all (sCallF Φ_splittable [none] (sCons (sVar 0) sNil))))
def Φ_law_list (ds : List D) : COut := outC [] 1 (f_law_list (initE 2 ds))

def f_divisor_list : En → Out Fl :=
  (sRet .all (sLc .var [1] (sRange2 (sCons (sC (.int 1)) (sCons (s2 dAdd (sVar 0) (sC (.int 1))) sNil))) (gN 1) (sB (s2 oEq (s2 oMod (sVar 0) (sVar 1)) (sC (.int 0)))) (sVar 1)))
def Φ_divisor_list (ds : List D) : COut := outC [] 1 (f_divisor_list (initE 2 ds))

def f_reached_by : En → Out Fl :=
  (sSeq2 (sSetN 1 (sLst (sCons (sC (.bl true)) sNil)))
  (sSeq2 (sFor (sSeq .var (sVar 0)) (gN 2) (sSeq2 (sSetM 3 (sCatL (sVar 1) (s2 dMul (sLst (sCons (sC (.bl false)) sNil)) (sVar 2))))
  (sSeq2 (sFor (sEnum .var (sVar 1)) (gTupD 2 (gCons' (gN 4) (gCons' (gN 5) gNil'))) (sIfS (sB (sVar 5)) (sSetI 3 (sC (.bl true)) (s2 dAdd (sVar 4) (sVar 2))) sNx))
  (sMove 1 3))))
  (sRetM 1)))
def Φ_reached_by (ds : List D) : COut := outC [] 1 (f_reached_by (initE 6 ds))

def f_law_rule : En → Out Fl :=
  (sSeq2 (sIfS (sB (s2 oEq (sVar 0) (sC (.int 1)))) (sRet .all (sC (.bl true))) sNx)
  (sSeq2 (sIfS (sB (s2 oEq (s2 oMod (sVar 0) (sC (.int 2))) (sC (.int 1)))) (sRet .all (sC (.bl false))) sNx)
  (sSeq2 (sAsg .all (sTup (sCons (sAll .var (sVar 0)) (sCons (sC (.int 1)) (sCons (sC (.int 2)) sNil)))) (gTupD 3 (gCons' (gN 1) (gCons' (gN 2) (gCons' (gN 3) gNil')))))
  (sSeq2 (whRun (sB (s2 oGt (sVar 1) (sC (.int 1)))) (sSeq2 (whRun (sB (s2 oNe (s2 oMod (sVar 1) (sVar 3)) (sC (.int 0)))) (sAug 3 oAdd (sC (.int 1))) fuelW)
  (sSeq2 (sSet 4 .all (sCall oSum (sCons (sLc .var [5] (sRange2 (sCons (sC (.int 1)) (sCons (s2 dAdd (sVar 2) (sC (.int 1))) sNil))) (gN 5) (sB (s2 oEq (s2 oMod (sVar 2) (sVar 5)) (sC (.int 0)))) (sVar 5)) sNil)))
  (sSeq2 (sIfS (sAndT (sB (s2 oGt (sVar 3) (sC (.int 2)))) (sB (s2 oLt (sVar 4) (s2 oSub (sVar 3) (sC (.int 1)))))) (sRet .all (sC (.bl false))) sNx)
  (whRun (sB (s2 oEq (s2 oMod (sVar 1) (sVar 3)) (sC (.int 0)))) (sAsg .all (sTup (sCons (s2 oDiv (sVar 1) (sVar 3)) (sCons (sAll .out (s2 dMul (sVar 2) (sVar 3))) sNil))) (gTupD 2 (gCons' (gN 1) (gCons' (gN 2) gNil')))) fuelW)))) fuelW)
  (sRet .all (sC (.bl true)))))))
def Φ_law_rule (ds : List D) : COut := outC [] 1 (f_law_rule (initE 6 ds))

def f_check_number : En → Out Fl :=
  (sIfS (sNotT (sB (sCallF Φ_is_integer [none, none, none] (sCons (sVar 0) (sCons (sC (.int 1)) (sCons (sC (.int 200)) sNil)))))) (sRaise 2) sNx)
def Φ_check_number (ds : List D) : COut := outC [] 1 (f_check_number (initE 1 ds))

def f_goes : En → Out Fl :=
  (sSeq2 (sSet 2 .all (sCallF Φ_reached_by [none] (sCons (sVar 0) sNil)))
  (sRet .var (sAnd (sChain oLe oLt (sC (.int 0)) (sVar 1) (sCall oLen (sCons (sVar 2) sNil))) (s2 dIx (sVar 2) (sVar 1)))))
def Φ_goes (ds : List D) : COut := outC [] 2 (f_goes (initE 3 ds))

def f_divisors : En → Out Fl :=
  (sSeq2 (sDrop (sCallF Φ_check_number [none] (sCons (sVar 0) sNil)))
  (sRet .all (sCallF Φ_divisor_list [none] (sCons (sVar 0) sNil))))
def Φ_divisors (ds : List D) : COut := outC [] 1 (f_divisors (initE 1 ds))

def f_is_full : En → Out Fl :=
  (sSeq2 (sDrop (sCallF Φ_check_number [none] (sCons (sVar 0) sNil)))
  (sRet .all (sCall oAll (sCons (sCut (sCallF Φ_reached_by [none] (sCons (sCallF Φ_divisor_list [none] (sCons (sVar 0) sNil)) sNil)) sNoPart (sPart (s2 dAdd (sVar 0) (sC (.int 1))))) sNil))))
def Φ_is_full (ds : List D) : COut := outC [] 1 (f_is_full (initE 1 ds))

def f_divisor_sum : En → Out Fl :=
  (sSeq2 (sDrop (sCallF Φ_check_number [none] (sCons (sVar 0) sNil)))
  (sSeq2 (sIfS (sNotT (sB (sCallF Φ_is_integer [none, none, none] (sCons (sVar 1) (sCons (sC (.int 0)) (sCons (sC (.int 999)) sNil)))))) (sRaise 2) sNx)
  (sSeq2 (sAsg .all (sTup (sCons (sCallF Φ_divisor_list [none] (sCons (sVar 0) sNil)) (sCons (sTup sNil) sNil))) (gTupD 2 (gCons' (gN 2) (gCons' (gN 3) gNil'))))
  (sSeq2 (whRun (sB (s2 oLt (sCall oSum (sCons (sVar 3) sNil)) (sVar 1))) (sSeq2 (sSet 4 .all (sLc .var [5, 6] (sEnum .var (sVar 2)) (gTupD 2 (gCons' (gN 5) (gCons' (gN 6) gNil'))) (sB (sCallF Φ_goes [none, none] (sCons (sCut (sVar 2) (sPart (s2 dAdd (sVar 5) (sC (.int 1)))) sNoPart) (sCons (s2 oSub (s2 oSub (sVar 1) (sCall oSum (sCons (sVar 3) sNil))) (sVar 6)) sNil)))) (sVar 5)))
  (sSeq2 (sIfS (sB (s2 oEq (sVar 4) (sLst sNil))) (sRet .all (sC .non)) sNx)
  (sAsg .all (sTup (sCons (sAll .out (s2 dAdd (sVar 3) (sTup (sCons (s2 dIx (sVar 2) (s2 dIx (sVar 4) (sC (.int 0)))) sNil)))) (sCons (sAll .out (sCut (sVar 2) (sPart (s2 dAdd (s2 dIx (sVar 4) (sC (.int 0))) (sC (.int 1)))) sNoPart)) sNil))) (gTupD 2 (gCons' (gN 3) (gCons' (gN 2) gNil')))))) fuelW)
  (sRet .var (sVar 3))))))
def Φ_divisor_sum (ds : List D) : COut := outC [] 2 (f_divisor_sum (initE 7 ds))

def f_law_ask_v6 : En → Out Fl :=
  (sTry 2 (sRet .all (sPick [Φ_divisors, Φ_is_full] [none] (sVar 0) (sCons (sVar 1) sNil))))
def Φ_law_ask_v6 (ds : List D) : COut := outC [] 2 (f_law_ask_v6 (initE 3 ds))

def f_law_ask_v7 : En → Out Fl :=
  (sTry 2 (sRet .all (sCallF Φ_divisor_sum [none, none] (sCons (sVar 0) (sCons (sVar 1) sNil)))))
def Φ_law_ask_v7 (ds : List D) : COut := outC [] 2 (f_law_ask_v7 (initE 3 ds))

def f_text_of : En → Out Fl :=
  (sRet .all (sIf (sB (s2 oNe (sVar 0) (sTup sNil))) (sJoin (sC (.str "+")) (sLc .all [1] (sSeq .var (sVar 0)) (gN 1) sYes (s2 dAdd (sC (.str "1/")) (sCall oStr (sCons (sVar 1) sNil))))) (sC (.str "0"))))
def Φ_text_of (ds : List D) : COut := outC [] 1 (f_text_of (initE 2 ds))

def f_parse_sum : En → Out Fl :=
  (sSeq2 (sIfS (sNotT (sB (s1 (oIsi .str) (sVar 0)))) (sRaise 8) sNx)
  (sSeq2 (sIfS (sB (s2 oEq (sVar 0) (sC (.str "0")))) (sRet .all (sTup sNil)) sNx)
  (sSeq2 (sSet 1 .all (sSplit (sVar 0) (sC (.str "+"))))
  (sSeq2 (sFor (sSeq .var (sVar 1)) (gN 2) (sIfS (sOrT (sB (s2 oNe (sCut (sVar 2) sNoPart (sPart (sC (.int 2)))) (sC (.str "1/")))) (sOrT (sNotT (sB (sChain oLe oLe (sC (.int 1)) (sCall oLen (sCons (sCut (sVar 2) (sPart (sC (.int 2))) sNoPart) sNil)) (sC (.int 4))))) (sNotT (sB (sCall oAll (sCons (sLc .all [4] (sStrIt (sCut (sVar 2) (sPart (sC (.int 2))) sNoPart)) (gN 4) sYes (s2 oInS (sVar 4) (sC (.str "0123456789")))) sNil)))))) (sRaise 8) sNx))
  (sSeq2 (sSet 3 .bor (sCall oTupleOf (sCons (sLc .all [2] (sSeq .var (sVar 1)) (gN 2) sYes (sCall oInt (sCons (sCut (sVar 2) (sPart (sC (.int 2))) sNoPart) sNil))) sNil)))
  (sSeq2 (sIfS (sOrT (sNotT (sB (sCallF Φ_is_sum [none] (sCons (sVar 3) sNil)))) (sOrT (sB (s2 oGt (sCall oLen (sCons (sVar 3) sNil)) (sC (.int 12)))) (sB (s2 oNe (sCallF Φ_text_of [none] (sCons (sVar 3) sNil)) (sVar 0))))) (sRaise 8) sNx)
  (sRet .var (sVar 3))))))))
def Φ_parse_sum (ds : List D) : COut := outC [] 1 (f_parse_sum (initE 5 ds))

def f_format_sum : En → Out Fl :=
  (sSeq2 (sDrop (sCallF Φ_check_sum [none, none, none] (sCons (sVar 0) (sCons (sC (.int 12)) (sCons (sC (.int 9999)) sNil)))))
  (sRet .all (sCallF Φ_text_of [none] (sCons (sVar 0) sNil))))
def Φ_format_sum (ds : List D) : COut := outC [] 1 (f_format_sum (initE 1 ds))

def f_law_read : En → Out Fl :=
  (sTry 1 (sRet .all (sCallF Φ_parse_sum [none] (sCons (sVar 0) sNil))))
def Φ_law_read (ds : List D) : COut := outC [] 1 (f_law_read (initE 2 ds))

def f_Cutter_parts : En → Out Fl :=
  (sRet .all (sCall oListI (sCons (sXg 0) sNil)))
def Φ_Cutter_parts (ds : List D) : COut := outC [0] 1 (f_Cutter_parts (initE 1 ds))

def f_Cutter_eq : En → Out Fl :=
  (sSeq2 (sIfS (sOrT (sNotT (sB (sXis 1))) (sB (s2 oNe (sXf 0) (sXf 1)))) (sRet .all (sC (.bl false))) sNx)
  (sRet .all (s2 oEq (sCall oSorted (sCons (sXg 0) sNil)) (sCall oSorted (sCons (sXg 1) sNil)))))
def Φ_Cutter_eq (ds : List D) : COut := outC [0, 1] 2 (f_Cutter_eq (initE 2 ds))

def f_Cutter_len : En → Out Fl :=
  (sRet .all (sCall oLen (sCons (sXg 0) sNil)))
def Φ_Cutter_len (ds : List D) : COut := outC [0] 1 (f_Cutter_len (initE 1 ds))

def f_wall : En → Out Fl :=
  (whRun (sB (sC (.bl true))) sNx fuelW)
def Φ_wall (ds : List D) : COut := outC [] 1 (f_wall (initE 1 ds))

def f_Cutter_str : En → Out Fl :=
  (sRet .all (sCall oStrS (sCons (sIf (sB (s1 oNeNil (sXg 0))) (sCallF Φ_text_of [none] (sCons (sCall oSorted (sCons (sXg 0) sNil)) sNil)) (sC (.str "0"))) sNil)))
def Φ_Cutter_str (ds : List D) : COut := outC [0] 1 (f_Cutter_str (initE 1 ds))

def Φ_Cutter_left : List D → COut := Φ_leftG Φ_less_part

def f_Cutter_cut : En → Out Fl :=
  (sSeq2 (sIfS (sNotT (sB (sCallF Φ_is_integer [none, none, none] (sCons (sVar 1) (sCons (sC (.int 2)) (sCons (sC (.int 9999)) sNil)))))) (sRaise 2) sNx)
  (sSeq2 (sIfS (sB (s2 oIn (sVar 1) (sXg 0))) (sRaise 6) sNx)
  (sSeq2 (sSet 2 .all (sMeth Φ_Cutter_left 0 [] sNil))
  (sSeq2 (sIfS (sOrT (sB (s2 oLt (s2 dMul (s2 dIx (sVar 2) (sC (.int 0))) (sVar 1)) (s2 dIx (sVar 2) (sC (.int 1))))) (sB (s2 oEq (sCall oLen (sCons (sXg 0) sNil)) (sC (.int 12))))) (sRaise 5) sNx)
  (sSeq2 (sXapp 0 1)
  (sRet .all (sMeth Φ_Cutter_left 0 [] sNil)))))))
def Φ_Cutter_cut (ds : List D) : COut := outC [0] 2 (f_Cutter_cut (initE 3 ds))

def f_Cutter_next_part : En → Out Fl :=
  (sSeq2 (sSet 1 .all (sMeth Φ_Cutter_left 0 [] sNil))
  (sSeq2 (sIfS (sB (s2 oEq (s2 dIx (sVar 1) (sC (.int 0))) (sC (.int 0)))) (sRet .all (sC .non)) sNx)
  (sSeq2 (sSet 2 .all (sCall oMax2 (sCons (sCallF Φ_greatest_in [none] (sCons (sVar 1) sNil)) (sCons (sC (.int 2)) sNil))))
  (sSeq2 (whRun (sB (s2 oIn (sVar 2) (sXg 0))) (sAug 2 oAdd (sC (.int 1))) fuelW)
  (sRet .var (sVar 2))))))
def Φ_Cutter_next_part (ds : List D) : COut := outC [0] 1 (f_Cutter_next_part (initE 3 ds))

noncomputable def f_law_cut_off (K : PySem.W.Frag) : En → Out Fl :=
  (sSeq2 (sSetM 5 (sListOf (sVar 4)))
  (sSeq2 (sFor (sRange1 (sCons (sCallF (Φ_law_draw K) [none, some 1, none] (sCons (sVar 0) (sConsX 1 (sCons (sC (.int 5)) sNil)))) sNil)) (gN 6) (sSeq2 (sAsg .var (sVar 3) (gTupD 2 (gCons' (gN 7) (gCons' (gN 8) gNil'))))
  (sSeq2 (sForM 5 (gN 9) (sAsg .all (sCallF Φ_law_lowest [none, none] (sCons (s2 oSub (s2 dMul (sVar 7) (sVar 9)) (sVar 8)) (sCons (s2 dMul (sVar 8) (sVar 9)) sNil))) (gTupD 2 (gCons' (gN 7) (gCons' (gN 8) gNil')))))
  (sIfS (sB (s2 oGt (sVar 7) (sC (.int 0)))) (sSeq2 (sSet 10 .all (s2 oDiv (s2 oSub (s2 dAdd (sVar 8) (sVar 7)) (sC (.int 1))) (sVar 7)))
  (sSeq2 (sSet 9 .all (s2 dAdd (sCall oMax2 (sCons (sVar 10) (sCons (sC (.int 2)) sNil))) (sCallF (Φ_law_draw K) [none, some 1, none] (sCons (sVar 0) (sConsX 1 (sCons (sC (.int 6)) sNil))))))
  (sSeq2 (whRun (sB (s2 oIn (sVar 9) (sVar 5))) (sAug 9 oAdd (sC (.int 1))) fuelW)
  (sIfS (sB (s2 oLe (sVar 9) (sC (.int 9999)))) (sSeq2 (sApp 5 (sVar 9))
  (sIfS (sB (s2 oNe (sMeth Φ_Cutter_cut 2 [none] (sCons (sVar 9) sNil)) (sCallF Φ_law_lowest [none, none] (sCons (s2 oSub (s2 dMul (sVar 7) (sVar 9)) (sVar 8)) (sCons (s2 dMul (sVar 8) (sVar 9)) sNil))))) (sRet .all (sC .non)) sNx)) sNx)))) sNx))))
  (sRetM 5)))
noncomputable def Φ_law_cut_off (K : PySem.W.Frag) (ds : List D) : COut := outC [1, 2] 5 (f_law_cut_off K (initE 11 ds))

def f_law_put : En → Out Fl :=
  (sTry 2 (sRet .all (sMeth Φ_Cutter_cut 0 [none] (sCons (sVar 1) sNil))))
def Φ_law_put (ds : List D) : COut := outC [0] 2 (f_law_put (initE 3 ds))

def f_law_goes_on : En → Out Fl :=
  (sSeq2 (sIfS (sB (s2 oEq (sVar 2) (sC (.int 0)))) (sRet .all (sAnd (s2 oIs' (sMeth Φ_Cutter_next_part 0 [] sNil) (sC .non)) (s2 oEq (sCallF Φ_law_put [some 0, none] (sConsX 0 (sCons (sC (.int 9999)) sNil))) (sIf (sB (s2 oIn (sC (.int 9999)) (sVar 1))) (sTup (sCons (sC (.str "raised")) (sCons (sC (.int 6)) sNil))) (sTup (sCons (sC (.str "raised")) (sCons (sC (.int 5)) sNil))))))) sNx)
  (sSeq2 (sSet 4 .all (sCall oMax2 (sCons (sC (.int 2)) (sCons (s2 oDiv (s2 oSub (s2 dAdd (sVar 3) (sVar 2)) (sC (.int 1))) (sVar 2)) sNil))))
  (sSeq2 (sIfS (sAndT (sB (s2 oGt (sVar 4) (sC (.int 2)))) (sAndT (sB (s2 oLe (sVar 4) (sC (.int 10000)))) (sAndT (sB (s2 oNotIn (s2 oSub (sVar 4) (sC (.int 1))) (sVar 1))) (sB (s2 oNe (sCallF Φ_law_put [some 0, none] (sConsX 0 (sCons (s2 oSub (sVar 4) (sC (.int 1))) sNil))) (sTup (sCons (sC (.str "raised")) (sCons (sC (.int 5)) sNil)))))))) (sRet .all (sC (.bl false))) sNx)
  (sSeq2 (whRun (sB (s2 oIn (sVar 4) (sVar 1))) (sAug 4 oAdd (sC (.int 1))) fuelW)
  (sRet .all (s2 oEq (sMeth Φ_Cutter_next_part 0 [] sNil) (sVar 4)))))))
def Φ_law_goes_on (ds : List D) : COut := outC [0] 4 (f_law_goes_on (initE 5 ds))

def f_law_rest : En → Out Fl :=
  (sSeq2 (sAsg .var (sVar 0) (gTupD 2 (gCons' (gN 2) (gCons' (gN 3) gNil'))))
  (sSeq2 (sFor (sSeq .var (sVar 1)) (gN 4) (sAsg .all (sCallF Φ_law_lowest [none, none] (sCons (s2 oSub (s2 dMul (sVar 2) (sVar 4)) (sVar 3)) (sCons (s2 dMul (sVar 3) (sVar 4)) sNil))) (gTupD 2 (gCons' (gN 2) (gCons' (gN 3) gNil')))))
  (sRet .bor (sTup (sCons (sVar 2) (sCons (sVar 3) sNil))))))
def Φ_law_rest (ds : List D) : COut := outC [] 2 (f_law_rest (initE 5 ds))

def f_Cutter_undo : En → Out Fl :=
  (sSeq2 (sIfS (sB (s2 oEq (sCall oLen (sCons (sXg 0) sNil)) (sXk 0))) (sRaise 7) sNx)
  (sSeq2 (sXcut 0)
  (sRet .all (sMeth Φ_Cutter_left 0 [] sNil))))
def Φ_Cutter_undo (ds : List D) : COut := outC [0] 1 (f_Cutter_undo (initE 1 ds))

def f_law_back : En → Out Fl :=
  (sTry 1 (sRet .all (sMeth Φ_Cutter_undo 0 [] sNil)))
def Φ_law_back (ds : List D) : COut := outC [0] 1 (f_law_back (initE 2 ds))

def f_law_small_ones : En → Out Fl :=
  (sSeq2 (sIfS (sOrT (sB (s2 oNe (sCallF Φ_total [none] (sCons (sTup (sCons (sC (.int 2)) (sCons (sC (.int 6)) sNil))) sNil)) (sTup (sCons (sC (.int 2)) (sCons (sC (.int 3)) sNil))))) (sOrT (sB (s2 oIsN' (sCallF Φ_is_sum_of [none, none] (sCons (sTup (sCons (sC (.int 2)) (sCons (sC (.int 3)) sNil))) (sCons (sTup (sCons (sC (.int 2)) (sCons (sC (.int 6)) sNil))) sNil))) (sC (.bl true)))) (sOrT (sB (s2 oNe (sCallF Φ_greatest [none] (sCons (sTup (sCons (sC (.int 2)) (sCons (sC (.int 3)) sNil))) sNil)) (sC (.int 2)))) (sB (s2 oNe (sCallF Φ_total [none] (sCons (sTup sNil) sNil)) (sTup (sCons (sC (.int 0)) (sCons (sC (.int 1)) sNil)))))))) (sRet .all (sC (.bl false))) sNx)
  (sSeq2 (sIfS (sOrT (sB (s2 oNe (sCallF Φ_greedy [none] (sCons (sTup (sCons (sC (.int 4)) (sCons (sC (.int 13)) sNil))) sNil)) (sTup (sCons (sC (.int 4)) (sCons (sC (.int 18)) (sCons (sC (.int 468)) sNil)))))) (sOrT (sB (s2 oNe (sCallF Φ_first_sum [none] (sCons (sTup (sCons (sC (.int 4)) (sCons (sC (.int 13)) sNil))) sNil)) (sTup (sCons (sC (.int 4)) (sCons (sC (.int 18)) (sCons (sC (.int 468)) sNil)))))) (sB (s2 oIsN' (sCallF Φ_has_pair [none] (sCons (sTup (sCons (sC (.int 4)) (sCons (sC (.int 13)) sNil))) sNil)) (sC (.bl false)))))) (sRet .all (sC (.bl false))) sNx)
  (sSeq2 (sIfS (sOrT (sB (s2 oNe (sCallF Φ_pairs [none] (sCons (sTup (sCons (sC (.int 2)) (sCons (sC (.int 15)) sNil))) sNil)) (sLst (sCons (sTup (sCons (sC (.int 8)) (sCons (sC (.int 120)) sNil))) (sCons (sTup (sCons (sC (.int 9)) (sCons (sC (.int 45)) sNil))) (sCons (sTup (sCons (sC (.int 10)) (sCons (sC (.int 30)) sNil))) (sCons (sTup (sCons (sC (.int 12)) (sCons (sC (.int 20)) sNil))) sNil))))))) (sOrT (sB (s2 oNe (sCallF Φ_sums [none, none] (sCons (sTup (sCons (sC (.int 5)) (sCons (sC (.int 6)) sNil))) (sCons (sC (.int 2)) sNil))) (sLst (sCons (sTup (sCons (sC (.int 2)) (sCons (sC (.int 3)) sNil))) sNil)))) (sB (s2 oNe (sCallF Φ_fewest [none] (sCons (sTup (sCons (sC (.int 4)) (sCons (sC (.int 13)) sNil))) sNil)) (sC (.int 3)))))) (sRet .all (sC (.bl false))) sNx)
  (sSeq2 (sIfS (sOrT (sB (s2 oNe (sCallF Φ_small_sums [none, none] (sCons (sTup (sCons (sC (.int 2)) (sCons (sC (.int 3)) sNil))) (sCons (sC (.int 12)) sNil))) (sLst (sCons (sTup (sCons (sC (.int 2)) (sCons (sC (.int 6)) sNil))) (sCons (sTup (sCons (sC (.int 3)) (sCons (sC (.int 4)) (sCons (sC (.int 12)) sNil)))) sNil))))) (sOrT (sB (s2 oNe (sCallF Φ_least_last [none] (sCons (sTup (sCons (sC (.int 2)) (sCons (sC (.int 3)) sNil))) sNil)) (sC (.int 6)))) (sB (s2 oNe (sCallF Φ_split [none, none] (sCons (sTup (sCons (sC (.int 2)) (sCons (sC (.int 6)) sNil))) (sCons (sC (.int 6)) sNil))) (sTup (sCons (sC (.int 2)) (sCons (sC (.int 7)) (sCons (sC (.int 42)) sNil)))))))) (sRet .all (sC (.bl false))) sNx)
  (sSeq2 (sIfS (sOrT (sB (s2 oNe (sCallF Φ_splittable [none] (sCons (sTup (sCons (sC (.int 2)) (sCons (sC (.int 3)) sNil))) sNil)) (sLst (sCons (sC (.int 3)) sNil)))) (sOrT (sB (s2 oNe (sCallF Φ_divisors [none] (sCons (sC (.int 12)) sNil)) (sLst (sCons (sC (.int 1)) (sCons (sC (.int 2)) (sCons (sC (.int 3)) (sCons (sC (.int 4)) (sCons (sC (.int 6)) (sCons (sC (.int 12)) sNil))))))))) (sB (s2 oNe (sCallF Φ_divisor_sum [none, none] (sCons (sC (.int 12)) (sCons (sC (.int 11)) sNil))) (sTup (sCons (sC (.int 1)) (sCons (sC (.int 4)) (sCons (sC (.int 6)) sNil)))))))) (sRet .all (sC (.bl false))) sNx)
  (sSeq2 (sSet 0 .all (sLc .var [1] (sRange2 (sCons (sC (.int 1)) (sCons (sC (.int 33)) sNil))) (gN 1) (sB (sCallF Φ_is_full [none] (sCons (sVar 1) sNil))) (sVar 1)))
  (sSeq2 (sIfS (sOrT (sB (s2 oNe (sVar 0) (sLst (sCons (sC (.int 1)) (sCons (sC (.int 2)) (sCons (sC (.int 4)) (sCons (sC (.int 6)) (sCons (sC (.int 8)) (sCons (sC (.int 12)) (sCons (sC (.int 16)) (sCons (sC (.int 18)) (sCons (sC (.int 20)) (sCons (sC (.int 24)) (sCons (sC (.int 28)) (sCons (sC (.int 30)) (sCons (sC (.int 32)) sNil)))))))))))))))) (sB (s2 oIsN' (sCallF Φ_divisor_sum [none, none] (sCons (sC (.int 10)) (sCons (sC (.int 4)) sNil))) (sC .non)))) (sRet .all (sC (.bl false))) sNx)
  (sSeq2 (sIfS (sOrT (sB (s2 oNe (sCallF Φ_greedy [none] (sCons (sTup (sCons (sC (.int 5)) (sCons (sC (.int 29)) sNil))) sNil)) (sTup (sCons (sC (.int 6)) (sCons (sC (.int 174)) sNil))))) (sOrT (sB (s2 oNe (sCallF Φ_greedy [none] (sCons (sTup (sCons (sC (.int 7)) (sCons (sC (.int 15)) sNil))) sNil)) (sTup (sCons (sC (.int 3)) (sCons (sC (.int 8)) (sCons (sC (.int 120)) sNil)))))) (sB (s2 oNe (sCallF Φ_format_sum [none] (sCons (sTup (sCons (sC (.int 2)) (sCons (sC (.int 6)) sNil))) sNil)) (sC (.str "1/2+1/6")))))) (sRet .all (sC (.bl false))) sNx)
  (sRet .all (sAnd (s2 oEq (sCallF Φ_parse_sum [none] (sCons (sC (.str "1/2+1/6")) sNil)) (sTup (sCons (sC (.int 2)) (sCons (sC (.int 6)) sNil)))) (sAnd (s2 oEq (s2 dIx (sCallF Φ_sums [none, none] (sCons (sTup (sCons (sC (.int 2)) (sCons (sC (.int 3)) sNil))) (sCons (sC (.int 3)) sNil))) (sC (.int 0))) (sTup (sCons (sC (.int 2)) (sCons (sC (.int 7)) (sCons (sC (.int 42)) sNil))))) (s2 oIs' (sCallF Φ_is_fraction [none] (sCons (sTup (sCons (sC (.int 2)) (sCons (sC (.int 3)) sNil))) sNil)) (sC (.bl true))))))))))))))
def Φ_law_small_ones (ds : List D) : COut := outC [] 0 (f_law_small_ones (initE 2 ds))

def f_law_told : En → Out Fl :=
  (sSetCat 2 (sLst (sCons (sCallF Φ_pairs [none] (sCons (sVar 0) sNil)) (sCons (sCallF Φ_sums [none, none] (sCons (sVar 0) (sCons (sC (.int 2)) sNil))) (sCons (sCallF Φ_small_sums [none, none] (sCons (sVar 0) (sCons (sC (.int 9)) sNil))) (sCons (sCallF Φ_divisors [none] (sCons (sVar 1) sNil)) (sCons (sCallF Φ_splittable [none] (sCons (sTup (sCons (sC (.int 2)) (sCons (sC (.int 3)) (sCons (s2 dAdd (sVar 1) (sC (.int 4))) sNil)))) sNil)) sNil)))))) (sLst (sCons (sLst (sCons (sCallF Φ_greedy [none] (sCons (sVar 0) sNil)) (sCons (sCallF Φ_first_sum [none] (sCons (sVar 0) sNil)) sNil))) sNil)))
def Φ_law_told (ds : List D) : COut := outC [] 2 (f_law_told (initE 3 ds))

def f_law_shared_v1 : En → Out Fl :=
  (sSeq2 (whRun (sB (s2 oGt (sVar 1) (sC (.int 0)))) (sPar 0 1 .var .all (sVar 1) (s2 oMod (sVar 0) (sVar 1))) fuelW)
  (sRet .var (sVar 0)))
def Φ_law_shared_v1 (ds : List D) : COut := outC [] 2 (f_law_shared_v1 (initE 2 ds))

def f_Cutter : En → Out Fl :=
  (sSeq2 (sDrop (sCallF Φ_check_fraction [none] (sCons (sVar 1) sNil))) (sSeq2 sStuck (sSeq2 sStuck sStuck)))
def Φ_Cutter : List D → COut
  | [_, d] => mkR (Φ_check_fraction [d])
  | _ => .stuck

noncomputable def f_law_some_share_v1 (K : PySem.W.Frag) : En → Out Fl :=
  (sSeq2 (sSet 2 .all (s2 dAdd (sC (.int 2)) (sCallF (Φ_law_draw K) [none, some 1, none] (sCons (sVar 0) (sConsX 1 (sCons (sC (.int 29)) sNil))))))
  (sRet .bor (sTup (sCons (sCallF (Φ_law_pick K) [none, some 1, none] (sCons (sVar 0) (sConsX 1 (sCons (sLc .var [3] (sRange2 (sCons (sC (.int 1)) (sCons (sVar 2) sNil))) (gN 3) (sB (s2 oEq (sCallF Φ_law_shared_v1 [none, none] (sCons (sVar 2) (sCons (sVar 3) sNil))) (sC (.int 1)))) (sVar 3)) sNil)))) (sCons (sVar 2) sNil)))))
noncomputable def Φ_law_some_share_v1 (K : PySem.W.Frag) (ds : List D) : COut := outC [1] 2 (f_law_some_share_v1 K (initE 4 ds))

def f_law_two : En → Out Fl :=
  (sTry 2 (sRet .all (sPick [Φ_is_sum_of, Φ_sums, Φ_small_sums] [none, none] (sVar 0) (sCons (sVar 1) (sCons (sC .non) sNil)))))
def Φ_law_two (ds : List D) : COut := outC [] 2 (f_law_two (initE 3 ds))

def f_law_one : En → Out Fl :=
  (sTry 2 (sSeq2 (sIfS (sB (s2 oLt (sVar 0) (sC (.int 7)))) (sRet .all (sPick [Φ_greatest, Φ_greedy, Φ_has_pair, Φ_pairs, Φ_fewest, Φ_first_sum, Φ_least_last] [none] (sVar 0) (sCons (sVar 1) sNil))) sNx)
  (sRet .all (sCallF (Φmk Φ_Cutter) [none] (sCons (sVar 1) sNil)))))
def Φ_law_one (ds : List D) : COut := outC [] 2 (f_law_one (initE 3 ds))

def f_law_split : En → Out Fl :=
  (sTry 2 (sRet .all (sCallF Φ_split [none, none] (sCons (sVar 0) (sCons (sVar 1) sNil)))))
def Φ_law_split (ds : List D) : COut := outC [] 2 (f_law_split (initE 3 ds))

def f_law_number : En → Out Fl :=
  (sTry 3 (sRet .all (sIf (sB (s2 oLt (sVar 0) (sC (.int 2)))) (sPick [Φ_divisors, Φ_is_full] [none] (sVar 0) (sCons (sVar 1) sNil)) (sCallF Φ_divisor_sum [none, none] (sCons (sVar 1) (sCons (sVar 2) sNil))))))
def Φ_law_number (ds : List D) : COut := outC [] 3 (f_law_number (initE 4 ds))

def f_law_sum : En → Out Fl :=
  (sTry 2 (sRet .all (sPick [Φ_total, Φ_format_sum, Φ_splittable] [none] (sVar 0) (sCons (sVar 1) sNil))))
def Φ_law_sum (ds : List D) : COut := outC [] 2 (f_law_sum (initE 3 ds))

def f_law_cut : En → Out Fl :=
  (sTry 2 (sRet .all (sMeth Φ_Cutter_cut 0 [none] (sCons (sVar 1) sNil))))
def Φ_law_cut (ds : List D) : COut := outC [0] 2 (f_law_cut (initE 3 ds))
end Ev

set_option Elab.async false
set_option linter.all false
set_option maxRecDepth 100000
set_option maxHeartbeats 4000000
/-! P0: reckoning with meanings. -/
namespace Ev
open PySem L2
@[simp] theorem deq_int (i j : Int) : deq (.int i) (.int j) = decide (i = j) := by
  unfold deq
  simp only [py, PyData.eqv]
  by_cases h : i = j <;> simp [h]
@[simp] theorem deq_bl (i j : Bool) : deq (.bl i) (.bl j) = decide (i = j) := by
  unfold deq
  simp only [py, PyData.eqv]
  by_cases h : i = j <;> simp [h]
@[simp] theorem deq_non : deq .non .non = true := by unfold deq; simp only [py, PyData.eqv]
def deqs : List D → List D → Bool
  | [], [] => true
  | d :: ds, e :: es => deq d e && deqs ds es
  | _, _ => false
theorem eqvs : ∀ ds es : List D, PyData.eqvAll (pys ds) (pys es) = deqs ds es
  | [], [] => by simp [pys, PyData.eqvAll, deqs]
  | d :: ds, e :: es => by simp [pys, PyData.eqvAll, deqs, deq, eqvs ds es]
  | [], _ :: _ => by simp [pys, PyData.eqvAll, deqs]
  | _ :: _, [] => by simp [pys, PyData.eqvAll, deqs]
@[simp] theorem deq_tup (ds es : List D) : deq (.tup ds) (.tup es) = deqs ds es := by
  unfold deq
  simp only [py, PyData.eqv]
  exact eqvs ds es
@[simp] theorem deq_lst (ds es : List D) : deq (.lst ds) (.lst es) = deqs ds es := by
  unfold deq
  simp only [py, PyData.eqv]
  exact eqvs ds es
@[simp] theorem deqs_ints : ∀ xs ys : List Int, deqs (xs.map .int) (ys.map .int) = decide (xs = ys)
  | [], [] => rfl
  | x :: xs, y :: ys => by simp [deqs, deqs_ints xs ys]
  | [], _ :: _ => by simp [deqs]
  | _ :: _, [] => by simp [deqs]
@[simp] theorem deqs_tups : ∀ xs ys : List (List Int), deqs (xs.map dT) (ys.map dT) = decide (xs = ys)
  | [], [] => rfl
  | x :: xs, y :: ys => by
    rw [List.map_cons, List.map_cons, deqs, deqs_tups xs ys]
    simp [dT]
  | [], _ :: _ => by simp [deqs]
  | _ :: _, [] => by simp [deqs]
@[simp] theorem shps_ints (n : Nat) : ∀ xs : List Int, shps n (xs.map .int) = true
  | [] => by simp [shps]
  | x :: xs => by
    have := shps_ints n xs
    simp [shps, shp, this]
theorem shp_lst (n : Nat) (ds : List D) : shp (n + 1) (.lst ds) = shps n ds := by simp [shp]
theorem shp_tup (n : Nat) (ds : List D) : shp (n + 1) (.tup ds) = shps n ds := by simp [shp]
@[simp] theorem shps_tups (n : Nat) : ∀ xs : List (List Int), shps (n + 1) (xs.map dT) = true
  | [] => by simp [shps]
  | x :: xs => by
    have := shps_tups n xs
    rw [List.map_cons, shps, this]
    simp [dT, shp_tup]
@[simp] theorem oEq_int (i j : Int) : oEq (.int i) (.int j) = some (.bl (decide (i = j))) := by simp [oEq, shp]
@[simp] theorem oNe_int (i j : Int) : oNe (.int i) (.int j) = some (.bl (!decide (i = j))) := by simp [oNe, shp]
@[simp] theorem oEq_bl (i j : Bool) : oEq (.bl i) (.bl j) = some (.bl (decide (i = j))) := by simp [oEq, shp]
@[simp] theorem oNe_bl (i j : Bool) : oNe (.bl i) (.bl j) = some (.bl (!decide (i = j))) := by simp [oNe, shp]
@[simp] theorem oEq_dT (xs ys : List Int) : oEq (dT xs) (dT ys) = some (.bl (decide (xs = ys))) := by simp [oEq, dT, shp_tup]
@[simp] theorem oNe_dT (xs ys : List Int) : oNe (dT xs) (dT ys) = some (.bl (!decide (xs = ys))) := by simp [oNe, dT, shp_tup]
@[simp] theorem oEq_ints (xs ys : List Int) : oEq (.tup (xs.map .int)) (.tup (ys.map .int)) = some (.bl (decide (xs = ys))) := oEq_dT xs ys
@[simp] theorem oNe_ints (xs ys : List Int) : oNe (.tup (xs.map .int)) (.tup (ys.map .int)) = some (.bl (!decide (xs = ys))) := oNe_dT xs ys
@[simp] theorem oEq_lints (xs ys : List Int) : oEq (.lst (xs.map .int)) (.lst (ys.map .int)) = some (.bl (decide (xs = ys))) := by simp [oEq, shp_lst]
@[simp] theorem oEq_tups (xs ys : List (List Int)) : oEq (.lst (xs.map dT)) (.lst (ys.map dT)) = some (.bl (decide (xs = ys))) := by simp [oEq, shp_lst]
@[simp] theorem oNe_tups (xs ys : List (List Int)) : oNe (.lst (xs.map dT)) (.lst (ys.map dT)) = some (.bl (!decide (xs = ys))) := by simp [oNe, shp_lst]

/-! ### bounds -/
theorem log2_lt {a k : Nat} (h : a < 2 ^ k) (hk : 0 < k) : a.log2 < k := PySem.Flt.log2_lt_of hk h
/-- small: what is reckoned with below -/
def Sm (i : Int) : Prop := i.natAbs < 2 ^ 4000
theorem mulB_sm {i j : Int} (h : Sm i) (g : Sm j) : mulB i j = true := by
  unfold mulB
  have a := log2_lt h (by decide)
  have b := log2_lt g (by decide)
  exact decide_eq_true (by omega)
theorem divB_sm {j : Int} (p : 0 < j) (g : Sm j) : divB j = true := by
  unfold divB
  have b := log2_lt g (by decide)
  rw [decide_eq_true p, Bool.true_and]
  exact decide_eq_true (by omega)
theorem big_nat : (10 : Nat) ^ 1000 < 2 ^ 4000 := by decide +kernel
/-! ### the greatest divisor -/
theorem wh_step {c : En → Out Bool} {b : En → Out Fl} {n : Nat} {e e1 e2 : En} (h1 : c e = .ok true e1) (h2 : b e1 = .ok .nx e2) : whRun c b (n + 1) e = whRun c b n e2 := by
  simp only [whRun, h1, h2]
theorem wh_stop {c : En → Out Bool} {b : En → Out Fl} {n : Nat} {e e1 : En} (h1 : c e = .ok false e1) : whRun c b (n + 1) e = .ok .nx e1 := by
  simp only [whRun, h1]
def gcdI (a b : Int) : Int := (Nat.gcd a.toNat b.toNat : Nat)
theorem gcd_run : ∀ (n : Nat) (a b : Int) (r : En), 0 ≤ a → 0 ≤ b → b.toNat < n →
    whRun (sB (s2 oGt (sVar 1) (sC (.int 0)))) (sPar 0 1 .var .all (sVar 1) (s2 oMod (sVar 0) (sVar 1))) n (some (.int a) :: some (.int b) :: r) = .ok .nx (some (.int (gcdI a b)) :: some (.int 0) :: r)
  | 0, _, _, _, _, _, h => absurd h (by omega)
  | n + 1, a, b, r, ha, hb, h => by
    by_cases hz : b > 0
    · rw [wh_step (e1 := some (.int a) :: some (.int b) :: r) (e2 := some (.int b) :: some (.int (a % b)) :: r) (by simp [hz]) (by simp [hz])]
      have h1 : 0 ≤ a % b := Int.emod_nonneg a (by omega)
      have h2 : a % b < b := Int.emod_lt_of_pos a hz
      rw [gcd_run n b (a % b) r hb h1 (by omega)]
      have e : gcdI b (a % b) = gcdI a b := by
        unfold gcdI
        have e1 : (a % b).toNat = a.toNat % b.toNat := by
          rw [Int.toNat_emod ha hb]
        rw [e1, Nat.gcd_comm a.toNat, Nat.gcd_rec b.toNat a.toNat, Nat.gcd_comm (a.toNat % b.toNat)]
      rw [e]
    · have hb0 : b = 0 := by omega
      subst hb0
      rw [wh_stop (e1 := some (.int a) :: some (.int 0) :: r) (by simp)]
      have e : gcdI a 0 = a := by
        unfold gcdI
        rw [Int.toNat_zero, Nat.gcd_zero_right, Int.toNat_of_nonneg ha]
      rw [e]
theorem Φ_divisor_of_eq (a b : Int) (ha : 0 ≤ a) (hb : 0 ≤ b) (h : Sm b) : Φ_divisor_of [.int a, .int b] = .ok (.int (gcdI a b)) [] := by
  have hf : b.toNat < fuelW := by
    have e : b.toNat = b.natAbs := by omega
    rw [e]
    exact Nat.lt_trans h (by unfold fuelW; decide +kernel)
  simp [Φ_divisor_of, f_divisor_of, gcd_run fuelW a b [] ha hb hf]
def low (a b : Int) : List Int := [a / gcdI b a, b / gcdI b a]
theorem gcdI_pos {a b : Int} (hb : 0 < b) : 0 < gcdI b a := by
  unfold gcdI
  have := Nat.gcd_pos_of_pos_left a.toNat (show 0 < b.toNat by omega)
  omega
theorem gcdI_le {a b : Int} (hb : 0 < b) : gcdI b a ≤ b := by
  unfold gcdI
  have := Nat.le_of_dvd (show 0 < b.toNat by omega) (Nat.gcd_dvd_left b.toNat a.toNat)
  omega
theorem Sm.le {a b : Int} (h0 : 0 ≤ a) (h : a ≤ b) (hb : Sm b) : Sm a := by
  unfold Sm at *
  omega
theorem Φ_lowest_eq (a b : Int) (ha : 0 ≤ a) (hb : 0 < b) (h : Sm a) (h' : Sm b) : Φ_lowest [.int a, .int b] = .ok (dT (low a b)) [] := by
  have d := divB_sm (gcdI_pos (a := a) hb) (h'.le (Int.le_of_lt (gcdI_pos hb)) (gcdI_le hb))
  simp [Φ_lowest, f_lowest, Φ_divisor_of_eq b a (Int.le_of_lt hb) ha h, d, dT, low]
end Ev

set_option Elab.async false
set_option linter.all false
set_option maxRecDepth 100000
set_option maxHeartbeats 4000000
/-! P1: comprehensions; sums of parts. -/
namespace Ev
open PySem L2
/-! ### comprehensions -/
theorem wipe_rest {e e2 : En} : ∀ {vs : List Nat}, wipeE e2 vs = wipeE e vs → restE e e2 vs = e := by
  intro vs h
  have g : ∀ (vs : List Nat) (e : En) (i : Nat), (wipeE e vs)[i]? = if i ∈ vs then e[i]?.map (fun _ => none) else e[i]? := by
    intro vs
    induction vs with
    | nil => intro e i; simp [wipeE]
    | cons v vs ih =>
      intro e i
      unfold wipeE
      rw [List.getElem?_set, wipeE_length, ih]
      by_cases hv : v = i
      · subst hv
        by_cases hl : v < e.length <;> simp [hl]
      · have hv' : ¬ i = v := fun z => hv z.symm
        simp [hv, hv']
  have r : ∀ (vs : List Nat) (i : Nat), (restE e e2 vs)[i]? = if i ∈ vs then e2[i]?.map (fun _ => e.getD i none) else e2[i]? := by
    intro vs
    induction vs with
    | nil => intro i; simp [restE]
    | cons v vs ih =>
      intro i
      unfold restE
      rw [List.getElem?_set, restE_length, ih]
      by_cases hv : v = i
      · subst hv
        by_cases hl : v < e2.length <;> simp [hl]
      · have hv' : ¬ i = v := fun z => hv z.symm
        simp [hv, hv']
  have hlen : e2.length = e.length := by
    have := congrArg List.length h
    rwa [wipeE_length, wipeE_length] at this
  refine List.ext_getElem? fun i => ?_
  rw [r]
  have hi := congrArg (fun l => l[i]?) h
  simp only [g] at hi
  by_cases hm : i ∈ vs
  · rw [if_pos hm]
    by_cases hl : i < e.length
    · rw [List.getElem?_eq_getElem (by omega), List.getElem?_eq_getElem hl]
      simp [List.getElem?_eq_getElem hl]
    · rw [List.getElem?_eq_none (by omega), List.getElem?_eq_none (by omega)]
      rfl
  · rw [if_neg hm]
    rwa [if_neg hm, if_neg hm] at hi
theorem lcRun_eq {k : Fk} {vs : List Nat} {g : D → En → Option En} {t : En → Out Bool} {f : En → Out D} {e0 : En} {α : Type} {c : α → D} {F : α → Option D} : ∀ (xs : List α) (e : En) (acc : List D), wipeE e vs = wipeE e0 vs → acc.length + xs.length ≤ 1000000 →
    (∀ x ∈ xs, ∃ e1, g (c x) (wipeE e0 vs) = some e1 ∧ wipeE e1 vs = wipeE e0 vs ∧ (match F x with | some y => t e1 = .ok true e1 ∧ f e1 = .ok y e1 ∧ okK k y = true | none => t e1 = .ok false e1)) →
    ∃ e2, wipeE e2 vs = wipeE e0 vs ∧ lcRun k vs g t f (xs.map c) e acc = some (acc ++ xs.filterMap F, e2)
  | [], e, acc, h, _, _ => ⟨e, h, by simp [lcRun]⟩
  | x :: xs, e, acc, h, hl, hw => by
    obtain ⟨e1, g1, w1, h1⟩ := hw x List.mem_cons_self
    cases q : F x with
    | none =>
      rw [q] at h1
      obtain ⟨e2, w2, r2⟩ := lcRun_eq xs e1 acc w1 (by simp at hl; omega) fun y hy => hw y (List.mem_cons_of_mem _ hy)
      refine ⟨e2, w2, ?_⟩
      rw [List.map_cons, lcRun, h, g1]
      simp only [h1]
      rw [r2]
      simp [q]
    | some y =>
      rw [q] at h1
      obtain ⟨h2, h3, h4⟩ := h1
      obtain ⟨e2, w2, r2⟩ := lcRun_eq xs e1 (acc ++ [y]) w1 (by simp at hl ⊢; omega) fun y hy => hw y (List.mem_cons_of_mem _ hy)
      refine ⟨e2, w2, ?_⟩
      have hm : lim acc.length = true := decide_eq_true (by simp at hl; omega)
      rw [List.map_cons, lcRun, h, g1]
      simp only [h2, h3, h4, hm, Bool.and_self, if_true]
      rw [r2]
      simp [q]
theorem sLc_eq {k : Fk} {vs : List Nat} {fi : En → Out (List D)} {g : D → En → Option En} {t : En → Out Bool} {f : En → Out D} {e : En} {α : Type} (c : α → D) (F : α → Option D) (xs : List α) (hi : fi e = .ok (xs.map c) e) (hl : xs.length ≤ 1000000)
    (hw : ∀ x ∈ xs, ∃ e1, g (c x) (wipeE e vs) = some e1 ∧ wipeE e1 vs = wipeE e vs ∧ (match F x with | some y => t e1 = .ok true e1 ∧ f e1 = .ok y e1 ∧ okK k y = true | none => t e1 = .ok false e1)) : sLc k vs fi g t f e = .ok (.lst (xs.filterMap F)) e := by
  obtain ⟨e2, w2, r2⟩ := lcRun_eq (k := k) (t := t) (f := f) xs e [] rfl (by simpa using hl) hw
  unfold sLc
  rw [hi, bind_ok, r2]
  show Out.ok (D.lst ([] ++ xs.filterMap F)) (restE e e2 vs) = _
  rw [wipe_rest w2, List.nil_append]
@[simp] def stepOk (k : Fk) (vs : List Nat) (g : D → En → Option En) (t : En → Out Bool) (f : En → Out D) (e0 : En) (d : D) (o : Option D) : Prop := match g d e0 with
  | some e1 => wipeE e1 vs = e0 ∧ (match o with | some y => t e1 = .ok true e1 ∧ f e1 = .ok y e1 ∧ okK k y = true | none => t e1 = .ok false e1)
  | none => False
theorem sLc_of {k : Fk} {vs : List Nat} {fi : En → Out (List D)} {g : D → En → Option En} {t : En → Out Bool} {f : En → Out D} {e : En} {α : Type} (c : α → D) (F : α → Option D) (xs : List α) (hi : fi e = .ok (xs.map c) e) (hl : xs.length ≤ 1000000)
    (hw : ∀ x ∈ xs, stepOk k vs g t f (wipeE e vs) (c x) (F x)) : sLc k vs fi g t f e = .ok (.lst (xs.filterMap F)) e := by
  refine sLc_eq c F xs hi hl fun x hx => ?_
  have h := hw x hx
  unfold stepOk at h
  cases q : g (c x) (wipeE e vs) with
  | none => rw [q] at h; exact h.elim
  | some e1 => rw [q] at h; exact ⟨e1, rfl, h⟩
theorem fm_some {α β : Type} (f : α → β) : ∀ xs : List α, xs.filterMap (fun x => some (f x)) = xs.map f
  | [] => rfl
  | x :: xs => by simp [fm_some f xs]

/-! ### is_sum -/
@[simp] theorem okK_int (k : Fk) (i : Int) : okK k (.int i) = true := by cases k <;> rfl
@[simp] theorem okK_bl (k : Fk) (i : Bool) : okK k (.bl i) = true := by cases k <;> rfl
@[simp] theorem lfrees_ints : ∀ xs : List Int, lfrees (xs.map .int) = true
  | [] => rfl
  | x :: xs => by simp [lfrees, lfree, lfrees_ints xs]
@[simp] theorem lfrees_tups : ∀ xs : List (List Int), lfrees (xs.map dT) = true
  | [] => rfl
  | x :: xs => by simp [lfrees, lfree, lfrees_tups xs]
@[simp] theorem itemsOk_ints (k : Fk) (xs : List Int) : itemsOk k (xs.map .int) = true := by cases k <;> simp [itemsOk]
@[simp] theorem itemsOk_tups (k : Fk) (xs : List (List Int)) : itemsOk k (xs.map dT) = true := by cases k <;> simp [itemsOk]
/-- each less than the next -/
def incr : List Int → Bool
  | [] => true
  | [_] => true
  | x :: y :: r => decide (x < y) && incr (y :: r)
def isSum (xs : List Int) : Bool := xs.all (fun x => decide (1 < x)) && incr xs
theorem cut1 (xs : List D) : cutD xs (some 1) none = xs.drop 1 := by
  unfold cutD HT.sIx
  cases xs with
  | nil => simp
  | cons x xs =>
    simp
@[simp] theorem bls?_mapf {α : Type} (f : α → Bool) : ∀ xs : List α, bls? (xs.map fun x => D.bl (f x)) = some (xs.map f)
  | [] => rfl
  | x :: xs => by simp [bls?, bls?_mapf f xs]
theorem zip_incr (xs : List Int) : (zipD (xs.map .int) ((xs.drop 1).map .int)) = (xs.zip (xs.drop 1)).map (fun p => .tup [.int p.1, .int p.2]) := by
  generalize xs.drop 1 = ys
  induction xs generalizing ys with
  | nil => rfl
  | cons x xs ih => cases ys with
    | nil => rfl
    | cons y ys =>
      have := ih ys
      simp only [zipD] at this
      simp [zipD, this]
theorem incr_zip : ∀ xs : List Int, ((xs.zip (xs.drop 1)).all fun p => decide (p.1 < p.2)) = incr xs
  | [] => rfl
  | [_] => rfl
  | x :: y :: r => by
    have h := incr_zip (y :: r)
    simp only [List.drop_succ_cons, List.drop_zero, List.zip_cons_cons, List.map_cons, List.all_cons, incr, id] at h ⊢
    rw [h]
theorem Φ_is_sum_eq (xs : List Int) (hl : xs.length ≤ 1000) : Φ_is_sum [.tup (xs.map .int)] = .ok (.bl (isSum xs)) [] := by
  have h1 : sLc .all [1] (sSeq .var (sVar 0)) (gN 1) sYes (sAnd (s1 (oIsi .int) (sVar 1)) (sAnd (sNot (s1 (oIsi .bool) (sVar 1))) (s2 oGt (sVar 1) (sC (.int 1))))) [some (.tup (xs.map .int)), none, none, none] = .ok (.lst (xs.map fun x => D.bl (decide (1 < x)))) [some (.tup (xs.map .int)), none, none, none] := by
    rw [sLc_of D.int (fun x => some (.bl (decide (1 < x)))) xs (by simp) (by omega) (fun x _ => by simp), fm_some]
  have h2 : sLc .all [2, 3] (sZip .var .out (sVar 0) (sCut (sVar 0) (sPart (sC (.int 1))) sNoPart)) (gTupD 2 (gCons' (gN 2) (gCons' (gN 3) gNil'))) sYes (s2 oLt (sVar 2) (sVar 3)) [some (.tup (xs.map .int)), none, none, none] = .ok (.lst ((xs.zip (xs.drop 1)).map fun p => D.bl (decide (p.1 < p.2)))) [some (.tup (xs.map .int)), none, none, none] := by
    rw [sLc_of (fun p : Int × Int => .tup [.int p.1, .int p.2]) (fun p => some (.bl (decide (p.1 < p.2)))) (xs.zip (xs.drop 1)) ?_ (by simp; omega) (fun x _ => by simp), fm_some]
    have e : cutD (xs.map D.int) (some 1) none = (xs.drop 1).map D.int := by rw [cut1, List.map_drop]
    have z := zip_incr xs
    simp only [List.drop_one] at e z
    have e2 : (xs.map D.int).tail = xs.tail.map D.int := by cases xs <;> rfl
    have l : lfrees (xs.map D.int).tail = true := by rw [e2]; exact lfrees_ints _
    rw [← e2] at z e
    simp [e, l, z]
  have h3 := incr_zip xs
  by_cases hb : xs.all (fun x => decide (1 < x)) = true
  · have hb' : ∀ x ∈ xs, 1 < x := by simpa using hb
    simp [Φ_is_sum, f_is_sum, -sLc, h1, h2, isSum, hb, ← h3]
  · simp [Φ_is_sum, f_is_sum, -sLc, h1, h2, isSum, hb]
end Ev

set_option Elab.async false
set_option linter.all false
set_option maxRecDepth 100000
set_option maxHeartbeats 4000000
/-! P2: what a sum adds up to. -/
namespace Ev
open PySem L2
theorem gcdI_dvd_l {a b : Int} (hb : 0 ≤ b) : gcdI b a ∣ b := by
  have h := Nat.gcd_dvd_left b.toNat a.toNat
  have h2 : ((Nat.gcd b.toNat a.toNat : Nat) : Int) ∣ (b.toNat : Int) := Int.natCast_dvd_natCast.mpr h
  rwa [Int.toNat_of_nonneg hb] at h2
theorem gcdI_dvd_r {a b : Int} (ha : 0 ≤ a) : gcdI b a ∣ a := by
  have h := Nat.gcd_dvd_right b.toNat a.toNat
  have h2 : ((Nat.gcd b.toNat a.toNat : Nat) : Int) ∣ (a.toNat : Int) := Int.natCast_dvd_natCast.mpr h
  rwa [Int.toNat_of_nonneg ha] at h2
theorem gcdI_mul {a b g : Int} (ha : 0 ≤ a) (hb : 0 ≤ b) (hg : 0 ≤ g) : gcdI (b * g) (a * g) = gcdI b a * g := by
  unfold gcdI
  rw [Int.toNat_mul hb hg, Int.toNat_mul ha hg, Nat.gcd_mul_right, Int.natCast_mul, Int.toNat_of_nonneg hg]
theorem low_mul {a b g : Int} (ha : 0 ≤ a) (hb : 0 < b) (hg : 0 < g) : low (a * g) (b * g) = low a b := by
  unfold low
  rw [gcdI_mul ha (by omega) (by omega), Int.mul_ediv_mul_of_pos_left _ _ hg, Int.mul_ediv_mul_of_pos_left _ _ hg]
theorem low_parts {a b : Int} (ha : 0 ≤ a) (hb : 0 < b) : (a / gcdI b a) * gcdI b a = a ∧ (b / gcdI b a) * gcdI b a = b ∧ 0 ≤ a / gcdI b a ∧ 0 < b / gcdI b a := by
  have hg := gcdI_pos (a := a) hb
  have h1 := Int.ediv_mul_cancel (gcdI_dvd_r (a := a) (b := b) ha)
  have h2 := Int.ediv_mul_cancel (gcdI_dvd_l (a := a) (b := b) (by omega))
  refine ⟨h1, h2, Int.ediv_nonneg ha (by omega), ?_⟩
  exact Int.ediv_pos_of_pos_of_dvd hb (by omega) (gcdI_dvd_l (by omega))
theorem low_step {a b p : Int} (ha : 0 ≤ a) (hb : 0 < b) (hp : 0 < p) : low (a / gcdI b a * p + b / gcdI b a) (b / gcdI b a * p) = low (a * p + b) (b * p) := by
  obtain ⟨h1, h2, h3, h4⟩ := low_parts ha hb
  have hg := gcdI_pos (a := a) hb
  have e1 : a * p + b = (a / gcdI b a * p + b / gcdI b a) * gcdI b a := by
    rw [Int.add_mul, h2, Int.mul_right_comm, h1]
  have e2 : b * p = (b / gcdI b a * p) * gcdI b a := by
    rw [Int.mul_right_comm, h2]
  have q1 : 0 ≤ a / gcdI b a * p := Int.mul_nonneg h3 (by omega)
  have q2 : 0 < b / gcdI b a * p := Int.mul_pos h4 hp
  have : low (a * p + b) (b * p) = low ((a / gcdI b a * p + b / gcdI b a) * gcdI b a) ((b / gcdI b a * p) * gcdI b a) := by rw [← e1, ← e2]
  rw [this, low_mul (by omega) q2 hg]
def sfold (xs : List Int) (q : Int × Int) : Int × Int := xs.foldl (fun q p => (q.1 * p + q.2, q.2 * p)) q
def tot (xs : List Int) : List Int := low (sfold xs (0, 1)).1 (sfold xs (0, 1)).2
/-- bounds: behind k parts -/
def Bd (k : Nat) (q : Int × Int) : Prop := 0 ≤ q.1 ∧ 0 < q.2 ∧ q.1 ≤ k * 2 ^ (64 * k) ∧ q.2 ≤ 2 ^ (64 * k)
theorem Bd.step {k : Nat} {q : Int × Int} (h : Bd k q) {p : Int} (h1 : 0 < p) (h2 : p ≤ 2 ^ 64) : Bd (k + 1) (q.1 * p + q.2, q.2 * p) := by
  obtain ⟨a, b, c, d⟩ := h
  have e : (2 : Int) ^ (64 * (k + 1)) = 2 ^ (64 * k) * 2 ^ 64 := by rw [Nat.mul_add, Int.pow_add]
  have p0 : (0 : Int) ≤ 2 ^ (64 * k) := Int.le_of_lt (Int.pow_pos (by decide))
  have x1 : q.1 * p ≤ (k * 2 ^ (64 * k)) * 2 ^ 64 := Int.mul_le_mul c h2 (by omega) (Int.mul_nonneg (by omega) p0)
  have x2 : q.2 * p ≤ 2 ^ (64 * k) * 2 ^ 64 := Int.mul_le_mul d h2 (by omega) p0
  have x3 : (2 : Int) ^ (64 * k) ≤ 2 ^ (64 * k) * 2 ^ 64 := by
    have := Int.mul_le_mul_of_nonneg_left (show (1 : Int) ≤ 2 ^ 64 by decide) p0
    rwa [Int.mul_one] at this
  have y1 : 0 ≤ q.1 * p := Int.mul_nonneg a (by omega)
  refine ⟨?_, Int.mul_pos b h1, ?_, by show q.2 * p ≤ _; rw [e]; exact x2⟩
  · show 0 ≤ q.1 * p + q.2
    omega
  · show q.1 * p + q.2 ≤ _
    rw [e, Int.natCast_add, Int.add_mul]
    have z : ((k : Int) * (2 ^ (64 * k) * 2 ^ 64)) = (k * 2 ^ (64 * k)) * 2 ^ 64 := by rw [Int.mul_assoc]
    rw [z]
    have z1 : ((1 : Nat) : Int) * (2 ^ (64 * k) * 2 ^ 64) = 2 ^ (64 * k) * 2 ^ 64 := by simp
    rw [z1]
    omega
theorem Bd.sm {k : Nat} {q : Int × Int} (h : Bd k q) (hk : k ≤ 60) : Sm q.1 ∧ Sm q.2 := by
  obtain ⟨a, b, c, d⟩ := h
  have e1 : (2 : Nat) ^ (64 * k) ≤ 2 ^ 3840 := Nat.pow_le_pow_right (by decide) (by omega)
  have e2 : ((2 : Int) ^ (64 * k)) = ((2 ^ (64 * k) : Nat) : Int) := by simp
  have e3 : k * 2 ^ (64 * k) ≤ 60 * 2 ^ 3840 := Nat.mul_le_mul hk e1
  have e4 : 60 * 2 ^ 3840 < (2 : Nat) ^ 4000 := by decide +kernel
  have e5 : (2 : Nat) ^ 3840 < 2 ^ 4000 := by decide +kernel
  rw [e2] at c d
  have c' : q.1.toNat ≤ k * 2 ^ (64 * k) := by
    have : ((k : Int) * ((2 ^ (64 * k) : Nat) : Int)) = ((k * 2 ^ (64 * k) : Nat) : Int) := by rw [Int.natCast_mul]
    rw [this] at c
    omega
  unfold Sm
  constructor <;> omega
theorem sm_q {a b : Int} (ha : 0 ≤ a) (hb : 0 < b) (h : Sm a) (h' : Sm b) : Sm (a / gcdI b a) ∧ Sm (b / gcdI b a) :=
  ⟨h.le (low_parts ha hb).2.2.1 (Int.ediv_le_self _ ha), h'.le (Int.le_of_lt (low_parts ha hb).2.2.2) (Int.ediv_le_self _ (by omega))⟩
theorem sm_64 {p : Int} (h1 : 0 < p) (h2 : p ≤ 2 ^ 64) : Sm p := by
  have e5 : (2 : Nat) ^ 64 < 2 ^ 4000 := by decide +kernel
  have e6 : (2 : Int) ^ 64 = 18446744073709551616 := by decide
  have e7 : (2 : Nat) ^ 64 = 18446744073709551616 := by decide
  rw [e6] at h2
  rw [e7] at e5
  unfold Sm
  omega
theorem div_sm {a b p : Int} (ha : 0 ≤ a) (hb : 0 < b) (hp : 0 < p) (h : Sm (a * p + b)) (h' : Sm (b * p)) : Sm (a / gcdI b a * p + b / gcdI b a) ∧ Sm (b / gcdI b a * p) := by
  obtain ⟨h1, h2, h3, h4⟩ := low_parts ha hb
  have l1 : a / gcdI b a ≤ a := Int.ediv_le_self _ ha
  have l2 : b / gcdI b a ≤ b := Int.ediv_le_self _ (by omega)
  have q1 : 0 ≤ a / gcdI b a * p := Int.mul_nonneg h3 (by omega)
  have q2 : 0 < b / gcdI b a * p := Int.mul_pos h4 hp
  have m1 := Int.mul_le_mul_of_nonneg_right l1 (show 0 ≤ p by omega)
  have m2 := Int.mul_le_mul_of_nonneg_right l2 (show 0 ≤ p by omega)
  exact ⟨h.le (by omega) (by omega), h'.le (by omega) m2⟩
theorem tot_run (v : Option D) : ∀ (xs : List Int) (k : Nat) (q : Int × Int) (o : Option D), Bd k q → k + xs.length ≤ 60 → (∀ x ∈ xs, 0 < x ∧ x ≤ 2 ^ 64) →
    ∃ o', forRun (gN 2) (sSet 1 .all (sCallF Φ_lowest [none, none] (sCons (s2 dAdd (s2 dMul (s2 dIx (sVar 1) (sC (.int 0))) (sVar 2)) (s2 dIx (sVar 1) (sC (.int 1)))) (sCons (s2 dMul (s2 dIx (sVar 1) (sC (.int 1))) (sVar 2)) sNil)))) (xs.map .int)
      [v, some (.tup ((low q.1 q.2).map .int)), o] = .ok .nx [v, some (.tup ((low (sfold xs q).1 (sfold xs q).2).map .int)), o']
  | [], k, q, o, _, _, _ => ⟨o, rfl⟩
  | x :: xs, k, q, o, hq, hk, hx => by
    obtain ⟨x1, x2⟩ := hx x List.mem_cons_self
    have hq' := hq.step x1 x2
    obtain ⟨o', ih⟩ := tot_run v xs (k + 1) (q.1 * x + q.2, q.2 * x) (some (.int x)) hq' (by simp at hk; omega) fun y hy => hx y (List.mem_cons_of_mem _ hy)
    refine ⟨o', ?_⟩
    obtain ⟨s1, s2⟩ := hq'.sm (by simp at hk; omega)
    obtain ⟨a, b, _, _⟩ := id hq
    obtain ⟨u1, u2⟩ := hq.sm (by simp at hk; omega)
    obtain ⟨w1, w2⟩ := sm_q a b u1 u2
    obtain ⟨z1, z2⟩ := div_sm a b x1 s1 s2
    obtain ⟨_, _, g3, g4⟩ := low_parts a b
    have hl := Φ_lowest_eq (q.1 / gcdI q.2 q.1 * x + q.2 / gcdI q.2 q.1) (q.2 / gcdI q.2 q.1 * x) (by have := Int.mul_nonneg g3 (show 0 ≤ x by omega); omega) (Int.mul_pos g4 x1) z1 z2
    rw [low_step a b x1] at hl
    have m1 := mulB_sm w1 (sm_64 x1 x2)
    have m2 := mulB_sm w2 (sm_64 x1 x2)
    have e0 : (low q.1 q.2).map D.int = [.int (q.1 / gcdI q.2 q.1), .int (q.2 / gcdI q.2 q.1)] := rfl
    rw [List.map_cons, forRun, e0]
    simp [atI, ixN, m1, m2, hl, -low]
    exact ih
theorem Φ_total_of_eq (xs : List Int) (h : xs.length ≤ 60) (hx : ∀ x ∈ xs, 0 < x ∧ x ≤ 2 ^ 64) : Φ_total_of [.tup (xs.map .int)] = .ok (.tup ((tot xs).map .int)) [] := by
  obtain ⟨o', r⟩ := tot_run (some (.tup (xs.map .int))) xs 0 (0, 1) none ⟨by decide, by decide, by decide, by decide⟩ (by omega) hx
  have e0 : (low 0 1).map D.int = [.int 0, .int 1] := by
    have : low 0 1 = [0, 1] := by decide +kernel
    rw [this]; rfl
  rw [e0] at r
  simp [Φ_total_of, f_total_of, -forRun, r, tot]
end Ev

set_option Elab.async false
set_option linter.all false
set_option maxRecDepth 100000
set_option maxHeartbeats 4000000
/-! P3: what a law draws. -/
namespace Ev
open PySem L2
theorem atI_ok {α : Type} {xs : List α} {i : Int} (h0 : 0 ≤ i) (h1 : i < xs.length) : ∃ x, x ∈ xs ∧ atI xs i = some x := by
  have hl : i.toNat < xs.length := by omega
  refine ⟨xs[i.toNat], List.getElem_mem hl, ?_⟩
  unfold atI ixN
  rw [if_pos h0, if_pos (by omega)]
  show xs[i.toNat]? = _
  rw [List.getElem?_eq_getElem hl]
theorem scrLen_ok (K : PySem.W.Frag) (ns : List Int) : oScrLen K [.scr K ns] = some (.int ns.length) := by simp [oScrLen]
theorem scrEq_ok (K : PySem.W.Frag) (ns : List Int) : oScrEq K (.scr K ns) (.lst []) = some (.bl (decide (ns = []))) := by
  have := oEq_lints ns []
  simp only [List.map_nil] at this
  simp [oScrEq, this]
theorem scrIx_ok (K : PySem.W.Frag) (ns : List Int) {i : Int} (h0 : 0 ≤ i) (h1 : i < ns.length) : ∃ x, x ∈ ns ∧ oScrIx K (.scr K ns) (.int i) = some (.int x) := by
  obtain ⟨x, hx, e⟩ := atI_ok h0 h1
  exact ⟨x, hx, by simp [oScrIx, e]⟩
theorem lt_pow_log2 {a n : Nat} (h : a.log2 < n) : a < 2 ^ n := Nat.lt_of_lt_of_le Nat.lt_log2_self (Nat.pow_le_pow_right (by decide) h)
theorem bits_lt {z : Int} (h : Builtin.Int.intBits z ≤ 1048576) : z.natAbs.log2 < 1048577 := by
  unfold Builtin.Int.intBits at h
  split at h
  · rename_i e
    have : z = 0 := by simpa using e
    subst this
    decide
  · omega
theorem spare_run (a b : Option D) : ∀ (ds : List D) (s : Int) (o : Option D), ∃ s' o', s'.natAbs ≤ s.natAbs ∧
    forRun (gN 3) (sSet 2 .all (s2 oDiv (sVar 2) (sC (.int 1000003)))) ds [a, b, some (.int s), o] = .ok .nx [a, b, some (.int s'), o']
  | [], s, o => ⟨s, o, Nat.le_refl _, rfl⟩
  | d :: ds, s, o => by
    obtain ⟨s', o', h, r⟩ := spare_run a b ds (s / 1000003) (some d)
    refine ⟨s', o', Nat.le_trans h (Int.natAbs_ediv_le_natAbs _ _), ?_⟩
    have hd : divB 1000003 = true := by decide +kernel
    rw [forRun]
    simp [hd, -forRun]
    exact r
theorem cell_ok (K : PySem.W.Frag) (ns : List Int) (h : Bits ns) (k : Nat) (hk : k ≤ 1000000) : ∃ x : Int, x.natAbs.log2 < 2000000 ∧ Φ_law_cell_at K [.scr K ns, .int k] = .ok (.int x) [] := by
  by_cases h1 : (k : Int) < (ns.length : Int)
  · obtain ⟨x, hx, e⟩ := scrIx_ok K ns (i := k) (by omega) h1
    refine ⟨x, Nat.lt_trans (bits_lt (h.2 x hx)) (by decide), ?_⟩
    simp [Φ_law_cell_at, f_law_cell_at, scrLen_ok, h1, e]
  · by_cases h2 : ns = []
    · subst h2
      refine ⟨0, by decide, ?_⟩
      have h1' : ¬ ((k : Int) < 0) := by omega
      simp [Φ_law_cell_at, f_law_cell_at, scrLen_ok, scrEq_ok, h1']
    · have hp : 0 < ns.length := List.length_pos_iff.mpr h2
      have hp' : (0 : Int) < (ns.length : Int) := by omega
      obtain ⟨x, hx, e⟩ := scrIx_ok K ns (i := (k : Int) % (ns.length : Int)) (Int.emod_nonneg _ (by omega)) (Int.emod_lt_of_pos _ hp')
      have hb := bits_lt (h.2 x hx)
      have hq : divB (ns.length : Int) = true := by
        refine divB_sm hp' ?_
        unfold Sm
        have : (2 : Nat) ^ 4000 > 63 := by decide +kernel
        have := h.1
        omega
      obtain ⟨n, hn⟩ : ∃ n, n = 1048577 := ⟨_, rfl⟩
      have hxn : x.natAbs < 2 ^ n := lt_pow_log2 (by omega)
      obtain ⟨m, hm⟩ : ∃ m : Int, m = (if (60 : Int) < (k : Int) / (ns.length : Int) then 60 else (k : Int) / (ns.length : Int)) := ⟨_, rfl⟩
      have hm0 : 0 ≤ (k : Int) / (ns.length : Int) := Int.ediv_nonneg (by omega) (by omega)
      have hmr : rgB m = true := by
        have : m ≤ 60 ∧ 0 ≤ m := by split at hm <;> omega
        exact rgB_of (by omega) (by omega)
      obtain ⟨s', o', hs, r⟩ := spare_run (some (.scr K ns)) (some (.int k)) (rangeD 0 m) x none
      have p20 : (2 : Nat) ^ 20 ≤ 2 ^ n := Nat.pow_le_pow_right (by decide) (by omega)
      have e20 : (2 : Nat) ^ 20 = 1048576 := by decide
      have e9 : (2 : Nat) ^ (n + 9) = 512 * 2 ^ n := by rw [Nat.pow_add, Nat.mul_comm]
      have hres : (x * 31 + k + s' * 101).natAbs < 2 ^ (n + 9) := by rw [e9]; omega
      refine ⟨x * 31 + k + s' * 101, ?_, ?_⟩
      · have := log2_lt hres (by omega)
        omega
      · have m1 : mulB x 31 = true := decide_eq_true (by
          have : Nat.log2 (31 : Int).natAbs < 10 := by decide
          omega)
        have hsl : s'.natAbs.log2 < n := log2_lt (by omega) (by omega)
        have m2 : mulB s' 101 = true := decide_eq_true (by
          have : Nat.log2 (101 : Int).natAbs < 10 := by decide
          omega)
        simp [Φ_law_cell_at, f_law_cell_at, scrLen_ok, scrEq_ok, h1, h2, hp, hp', e, hq, ← hm, hmr, r, m1, m2, -forRun]
theorem mixed_ok (K : PySem.W.Frag) (ns : List Int) (h : Bits ns) (k : Nat) (hk : k ≤ 1000000) (m : Int) (hm : 0 < m) : ∃ r : Int, 0 ≤ r ∧ r < m ∧ Φ_law_mixed K [.scr K ns, .int k, .int m] = .ok (.int r) [] := by
  obtain ⟨x, hx, e⟩ := cell_ok K ns h k hk
  obtain ⟨y, hy⟩ : ∃ y : Int, y = (x * 1103515245 + 7919 * k + 12345) % 2147483647 := ⟨_, rfl⟩
  have y0 : 0 ≤ y := by rw [hy]; exact Int.emod_nonneg _ (by decide)
  have y1 : y < 2147483647 := by rw [hy]; exact Int.emod_lt_of_pos _ (by decide)
  refine ⟨y ^ 5 % 2147483647 % 999983 % m, Int.emod_nonneg _ (by omega), Int.emod_lt_of_pos _ hm, ?_⟩
  have m1 : mulB x 1103515245 = true := decide_eq_true (by
    have : Nat.log2 (1103515245 : Int).natAbs < 40 := by decide
    omega)
  have m2 : mulB 7919 k = true := mulB_sm (by unfold Sm; have : (2 : Nat) ^ 4000 > 7919 := by decide +kernel
                                              exact this) (by unfold Sm; have : (2 : Nat) ^ 4000 > 1000000 := by decide +kernel
                                                              omega)
  have hp : y.natAbs < 18446744073709551616 := by omega
  simp [Φ_law_mixed, f_law_mixed, e, m1, m2, ← hy, hp, hm]
theorem draw_ok (K : PySem.W.Frag) (ns : List Int) (h : Bits ns) (k : Nat) (hk : k < 1000000) (m : Int) (hm : 0 < m) : ∃ r : Int, 0 ≤ r ∧ r < m ∧ Φ_law_draw K [.scr K ns, .town k, .int m] = .ok (.int r) [.scr K ns, .town (k + 1), .int m] := by
  obtain ⟨r, h0, h1, e⟩ := mixed_ok K ns h (k + 1) (by omega) m hm
  refine ⟨r, h0, h1, ?_⟩
  have hl : lim k = true := decide_eq_true (by omega)
  rw [show ((k + 1 : Nat) : Int) = (k : Int) + 1 from rfl] at e
  simp [Φ_law_draw, f_law_draw, hl, e, show List.range 3 = [0, 1, 2] from rfl]
end Ev

set_option Elab.async false
set_option linter.all false
set_option maxRecDepth 100000
set_option maxHeartbeats 4000000
/-! P4: sums checked, added, split. -/
namespace Ev
open PySem L2
theorem Φ_is_integer_eq (i a b : Int) : Φ_is_integer [.int i, .int a, .int b] = .ok (.bl (decide (a ≤ i) && decide (i ≤ b))) [] := by
  by_cases h : a ≤ i <;> by_cases g : i ≤ b <;> simp [Φ_is_integer, f_is_integer, h, g]
def goodSum (xs : List Int) (c m : Int) : Bool := isSum xs && decide ((xs.length : Int) ≤ c) && xs.all fun x => decide (x ≤ m)
theorem Φ_check_sum_eq (xs : List Int) (hl : xs.length ≤ 1000) (c m : Int) : Φ_check_sum [.tup (xs.map .int), .int c, .int m] = if goodSum xs c m = true then .ok .non [] else .raise 1 [] := by
  have h1 : sLc .all [3] (sSeq .var (sVar 0)) (gN 3) sYes (s2 oLe (sVar 3) (sVar 2)) [some (.tup (xs.map .int)), some (.int c), some (.int m), none] = .ok (.lst (xs.map fun x => D.bl (decide (x ≤ m)))) [some (.tup (xs.map .int)), some (.int c), some (.int m), none] := by
    rw [sLc_of D.int (fun x => some (.bl (decide (x ≤ m)))) xs (by simp) (by omega) (fun x _ => by simp), fm_some]
  have h2 := Φ_is_sum_eq xs hl
  by_cases a : isSum xs = true
  · by_cases b : (xs.length : Int) ≤ c
    · have b' : ¬ (c < (xs.length : Int)) := by omega
      by_cases d : (xs.all fun x => decide (x ≤ m)) = true
      · have g : goodSum xs c m = true := by unfold goodSum; rw [a, d, decide_eq_true b]; rfl
        simp [Φ_check_sum, f_check_sum, -sLc, h1, h2, a, b', d, g]
      · have g : ¬ goodSum xs c m = true := by unfold goodSum; rw [a, decide_eq_true b]; simpa using d
        simp [Φ_check_sum, f_check_sum, -sLc, h1, h2, a, b', d, g]
    · have b' : c < (xs.length : Int) := by omega
      have g : ¬ goodSum xs c m = true := by unfold goodSum; rw [decide_eq_false b]; simp
      simp [Φ_check_sum, f_check_sum, -sLc, h1, h2, a, b', g]
  · have g : ¬ goodSum xs c m = true := by unfold goodSum; simp [a]
    simp [Φ_check_sum, f_check_sum, -sLc, h1, h2, a, g]
theorem goodSum_iff {xs : List Int} {c m : Int} (h : goodSum xs c m = true) : isSum xs = true ∧ (xs.length : Int) ≤ c ∧ ∀ x ∈ xs, 1 < x ∧ x ≤ m := by
  unfold goodSum at h
  rw [Bool.and_eq_true, Bool.and_eq_true] at h
  obtain ⟨⟨h1, h2⟩, h3⟩ := h
  refine ⟨h1, of_decide_eq_true h2, fun x hx => ?_⟩
  unfold isSum at h1
  rw [Bool.and_eq_true] at h1
  exact ⟨of_decide_eq_true (List.all_eq_true.mp h1.1 x hx), of_decide_eq_true (List.all_eq_true.mp h3 x hx)⟩
theorem Φ_total_eq (xs : List Int) (hl : xs.length ≤ 1000) : Φ_total [.tup (xs.map .int)] = if goodSum xs 12 9999 = true then .ok (.tup ((tot xs).map .int)) [] else .raise 1 [] := by
  have h1 := Φ_check_sum_eq xs hl 12 9999
  by_cases g : goodSum xs 12 9999 = true
  · obtain ⟨_, a, b⟩ := goodSum_iff g
    have h2 := Φ_total_of_eq xs (by omega) fun x hx => by
      have := b x hx
      have e6 : (2 : Int) ^ 64 = 18446744073709551616 := by decide
      rw [e6]
      omega
    simp [Φ_total, f_total, h1, h2, g]
  · simp [Φ_total, f_total, h1, g]
/-! ### in -/
theorem inV_ints (x : Int) : ∀ xs : List Int, inV (.int x) (xs.map V.int) = decide (x ∈ xs)
  | [] => rfl
  | y :: xs => by
    have h := inV_ints x xs
    unfold inV at h ⊢
    rw [List.map_cons, List.any_cons, h]
    by_cases e : y = x
    · subst e; simp [eqV]
    · have e' : ¬ x = y := fun z => e z.symm
      simp [eqV, e, e']
@[simp] theorem isF_ints : ∀ xs : List Int, (xs.map D.int).all isF = true
  | [] => rfl
  | x :: xs => by rw [List.map_cons, List.all_cons, isF_ints xs]; rfl
@[simp] theorem vOf_ints (xs : List Int) : (xs.map D.int).map vOf = xs.map V.int := by rw [List.map_map]; rfl
@[simp] theorem inD_ints (x : Int) (xs : List Int) : inD (.int x) (.tup (xs.map .int)) = some (decide (x ∈ xs)) := by
  unfold inD
  have e : items? (.tup (xs.map D.int)) = some (xs.map .int) := rfl
  rw [e]
  simp only [isF_ints, vOf_ints]
  rw [if_pos (by rfl), show vOf (.int x) = V.int x from rfl, inV_ints]
@[simp] theorem inD_lints (x : Int) (xs : List Int) : inD (.int x) (.lst (xs.map .int)) = some (decide (x ∈ xs)) := by
  unfold inD
  have e : items? (.lst (xs.map D.int)) = some (xs.map .int) := rfl
  rw [e]
  simp only [isF_ints, vOf_ints]
  rw [if_pos (by rfl), show vOf (.int x) = V.int x from rfl, inV_ints]
def canSplit (xs : List Int) (p : Int) : Bool := decide (p + 1 ∉ xs) && decide (p * (p + 1) ∉ xs)
theorem Φ_can_split_eq (xs : List Int) (p : Int) (h0 : 0 < p) (h : p ≤ 2 ^ 64) : Φ_can_split [.tup (xs.map .int), .int p] = .ok (.bl (canSplit xs p)) [] := by
  have e6 : (2 : Int) ^ 64 = 18446744073709551616 := by decide
  rw [e6] at h
  have m : mulB p (p + 1) = true := mulB_sm (sm_64 h0 (by omega)) (by
    have e7 : (18446744073709551617 : Nat) < 2 ^ 4000 := by decide +kernel
    unfold Sm
    omega)
  by_cases a : p + 1 ∈ xs <;> by_cases b : p * (p + 1) ∈ xs <;> simp [Φ_can_split, f_can_split, canSplit, a, b, m]
@[simp] theorem oSorted_ints (xs : List Int) : oSorted [.tup (xs.map .int)] = some (.lst ((sortI xs).map .int)) := by simp [oSorted]
@[simp] theorem oSorted_lints (xs : List Int) : oSorted [.lst (xs.map .int)] = some (.lst ((sortI xs).map .int)) := by simp [oSorted]
def splitS (xs : List Int) (p : Int) : List Int := sortI (xs.filter (fun x => !decide (x = p)) ++ [p + 1, p * (p + 1)])
theorem fm_filter {α β : Type} (f : α → β) (t : α → Bool) : ∀ xs : List α, xs.filterMap (fun x => if t x = true then some (f x) else none) = (xs.filter t).map f
  | [] => rfl
  | x :: xs => by
    by_cases h : t x = true <;> simp [h, fm_filter f t xs]
theorem Φ_split_eq (xs : List Int) (p : Int) (hg : goodSum xs 11 99 = true) (hp : p ∈ xs) (hc : canSplit xs p = true) : Φ_split [.tup (xs.map .int), .int p] = .ok (.tup ((splitS xs p).map .int)) [] := by
  obtain ⟨_, a, b⟩ := goodSum_iff hg
  obtain ⟨b1, b2⟩ := b p hp
  have h1 := Φ_check_sum_eq xs (by omega) 11 99
  rw [if_pos hg] at h1
  have h2 := Φ_is_integer_eq p 2 99
  have h3 := Φ_can_split_eq xs p (by omega) (by
    have e6 : (2 : Int) ^ 64 = 18446744073709551616 := by decide
    rw [e6]; omega)
  rw [hc] at h3
  rw [decide_eq_true (show 2 ≤ p by omega), decide_eq_true b2] at h2
  have h4 : sLc .var [3] (sSeq .var (sVar 0)) (gN 3) (sB (s2 oNe (sVar 3) (sVar 1))) (sVar 3) [some (.tup (xs.map .int)), some (.int p), none, none] = .ok (.lst ((xs.filter (fun x => !decide (x = p))).map D.int)) [some (.tup (xs.map .int)), some (.int p), none, none] := by
    rw [sLc_of D.int (fun x => if (!decide (x = p)) = true then some (.int x) else none) xs (by simp) (by omega) (fun x _ => by by_cases e : x = p <;> simp [e]), fm_filter]
  have m : mulB p (p + 1) = true := mulB_sm (sm_64 (by omega) (by
    have e6 : (2 : Int) ^ 64 = 18446744073709551616 := by decide
    rw [e6]; omega)) (by
    have e7 : (18446744073709551617 : Nat) < 2 ^ 4000 := by decide +kernel
    unfold Sm
    omega)
  have hf : (xs.filter (fun x => !decide (x = p))).length ≤ xs.length := List.length_filter_le _ _
  have l : lim ((xs.filter (fun x => !decide (x = p))).length + 2) = true := decide_eq_true (by omega)
  have hs : oSorted [.tup ((xs.filter (fun x => !decide (x = p))).map D.int ++ [.int (p + 1), .int (p * (p + 1))])] = some (.lst ((splitS xs p).map .int)) := by
    have := oSorted_ints (xs.filter (fun x => !decide (x = p)) ++ [p + 1, p * (p + 1)])
    rw [List.map_append] at this
    exact this
  simp [Φ_split, f_split, -sLc, h1, h2, h3, hp, h4, m, l, hs]
end Ev

set_option Elab.async false
set_option linter.all false
set_option maxRecDepth 100000
set_option maxHeartbeats 4000000
/-! P5: a law's own reckoning with fractions. -/
namespace Ev
open PySem L2
@[simp] theorem atI_0 {α : Type} (x : α) (xs : List α) : atI (x :: xs) 0 = some x := by simp [atI, ixN]
@[simp] theorem atI_1 {α : Type} (x y : α) (xs : List α) : atI (x :: y :: xs) 1 = some y := by
  have : (1 : Int) < (xs.length : Int) + 1 + 1 := by omega
  simp [atI, ixN, this]
@[simp] theorem atI_last {α : Type} (xs : List α) : atI xs (-1) = xs.getLast? := by
  unfold atI ixN
  rw [if_neg (by decide), List.getLast?_eq_getElem?]
  cases xs with
  | nil => rfl
  | cons x xs =>
    rw [if_pos (by simp; omega)]
    show (x :: xs)[_]? = _
    congr 1
    simp
    omega
@[simp] theorem oEq_tup2 (a b c d : Int) : oEq (.tup [.int a, .int b]) (.tup [.int c, .int d]) = some (.bl (decide (a = c ∧ b = d))) := by
  have := oEq_ints [a, b] [c, d]
  simpa using this
@[simp] theorem oNe_tup2 (a b c d : Int) : oNe (.tup [.int a, .int b]) (.tup [.int c, .int d]) = some (.bl (!decide (a = c ∧ b = d))) := by
  have := oNe_ints [a, b] [c, d]
  simpa using this
@[simp] theorem oNe_tup0 (xs : List Int) : oNe (.tup (xs.map .int)) (.tup []) = some (.bl (!decide (xs = []))) := oNe_ints xs []
@[simp] theorem oEq_tup0 (xs : List Int) : oEq (.tup (xs.map .int)) (.tup []) = some (.bl (decide (xs = []))) := oEq_ints xs []
theorem Φ_law_shared_eq (a b : Int) (ha : 0 ≤ a) (hb : 0 ≤ b) (h : Sm b) : Φ_law_shared [.int a, .int b] = .ok (.int (gcdI a b)) [] := Φ_divisor_of_eq a b ha hb h
theorem Φ_law_lowest_eq (a b : Int) (ha : 0 ≤ a) (hb : 0 < b) (h : Sm a) (h' : Sm b) : Φ_law_lowest [.int a, .int b] = .ok (.tup ((low a b).map .int)) [] := Φ_lowest_eq a b ha hb h h'
theorem added_run (v : Option D) : ∀ (xs : List Int) (k : Nat) (q : Int × Int) (o : Option D), Bd k q → k + xs.length ≤ 60 → (∀ x ∈ xs, 0 < x ∧ x ≤ 2 ^ 64) →
    ∃ o', forRun (gN 3) (sPar 1 2 .out .out (s2 dAdd (s2 dMul (sVar 1) (sVar 3)) (sVar 2)) (s2 dMul (sVar 2) (sVar 3))) (xs.map .int)
      [v, some (.int q.1), some (.int q.2), o] = .ok .nx [v, some (.int (sfold xs q).1), some (.int (sfold xs q).2), o'] ∧ Bd (k + xs.length) (sfold xs q)
  | [], k, q, o, h, _, _ => ⟨o, rfl, h⟩
  | x :: xs, k, q, o, hq, hk, hx => by
    obtain ⟨x1, x2⟩ := hx x List.mem_cons_self
    have hq' := hq.step x1 x2
    obtain ⟨o', ih, hb⟩ := added_run v xs (k + 1) (q.1 * x + q.2, q.2 * x) (some (.int x)) hq' (by simp at hk; omega) fun y hy => hx y (List.mem_cons_of_mem _ hy)
    refine ⟨o', ?_, by rw [List.length_cons, show k + (xs.length + 1) = k + 1 + xs.length by omega]; exact hb⟩
    obtain ⟨u1, u2⟩ := hq.sm (by simp at hk; omega)
    have m1 := mulB_sm u1 (sm_64 x1 x2)
    have m2 := mulB_sm u2 (sm_64 x1 x2)
    rw [List.map_cons, forRun]
    simp [m1, m2, -forRun]
    exact ih
theorem Φ_law_added_eq (xs : List Int) (h : xs.length ≤ 60) (hx : ∀ x ∈ xs, 0 < x ∧ x ≤ 2 ^ 64) : Φ_law_added [.tup (xs.map .int)] = .ok (.tup ((tot xs).map .int)) [] := by
  obtain ⟨o', r, hb⟩ := added_run (some (.tup (xs.map .int))) xs 0 (0, 1) none ⟨by decide, by decide, by decide, by decide⟩ (by omega) hx
  obtain ⟨s1, s2⟩ := hb.sm (by omega)
  have hl := Φ_law_lowest_eq _ _ hb.1 hb.2.1 s1 s2
  simp [Φ_law_added, f_law_added, -forRun, r, hl, tot]
theorem tot_sm {xs : List Int} {t b : Int} (h : xs.length ≤ 60) (hx : ∀ x ∈ xs, 0 < x ∧ x ≤ 2 ^ 64) (e : tot xs = [t, b]) : 0 ≤ t ∧ 0 < b ∧ Sm t ∧ Sm b := by
  obtain ⟨o', r, hb⟩ := added_run none xs 0 (0, 1) none ⟨by decide, by decide, by decide, by decide⟩ (by omega) hx
  obtain ⟨s1, s2⟩ := hb.sm (by omega)
  obtain ⟨_, _, h3, h4⟩ := low_parts hb.1 hb.2.1
  obtain ⟨w1, w2⟩ := sm_q hb.1 hb.2.1 s1 s2
  unfold tot low at e
  simp only [List.cons.injEq, and_true] at e
  obtain ⟨rfl, rfl⟩ := e
  exact ⟨h3, h4, w1, w2⟩
theorem pair_ex (xs : List Int) : ∃ t b, tot xs = [t, b] := ⟨_, _, rfl⟩
theorem sm_of {i : Int} (h0 : 0 ≤ i) (h : i ≤ 10 ^ 30) : Sm i := by
  have e5 : (10 : Nat) ^ 30 < 2 ^ 4000 := by decide +kernel
  have e6 : (10 : Int) ^ 30 = 1000000000000000000000000000000 := by decide
  have e7 : (10 : Nat) ^ 30 = 1000000000000000000000000000000 := by decide
  rw [e6] at h
  rw [e7] at e5
  unfold Sm
  omega
theorem rangeD_vals (s c : Nat) : rangeD (s : Int) ((s : Int) + (c : Int)) = ((List.range c).map fun i => ((s + i : Nat) : Int)).map .int := by
  unfold rangeD
  rw [show ((s : Int) + (c : Int) - (s : Int)).toNat = c by omega, List.map_map]
  rfl
end Ev

set_option Elab.async false
set_option linter.all false
set_option maxRecDepth 100000
set_option maxHeartbeats 4000000
/-! P6: fractions; sums of two parts. -/
namespace Ev
open PySem L2
def isFr (a b : Int) : Bool := decide (2 ≤ b) && decide (b ≤ 30) && decide (1 ≤ a) && decide (a ≤ b - 1) && decide (gcdI b a = 1)
theorem Φ_is_fraction_eq (a b : Int) : Φ_is_fraction [.tup [.int a, .int b]] = .ok (.bl (isFr a b)) [] := by
  have h1 := Φ_is_integer_eq b 2 30
  have h2 := Φ_is_integer_eq a 1 (b - 1)
  by_cases hb : 2 ≤ b ∧ b ≤ 30
  · by_cases ha : 1 ≤ a ∧ a ≤ b - 1
    · have h3 := Φ_divisor_of_eq b a (by omega) (by omega) (sm_of (by omega) (by
        have : (10 : Int) ^ 30 = 1000000000000000000000000000000 := by decide
        omega))
      simp [Φ_is_fraction, f_is_fraction, h1, h2, h3, hb.1, hb.2, ha.1, ha.2, isFr]
    · have hn : (decide (1 ≤ a) && decide (a ≤ b - 1)) = false := by
        rw [← Bool.not_eq_true, Bool.and_eq_true]
        simpa using ha
      rw [hn] at h2
      have e : isFr a b = false := by
        unfold isFr
        rw [Bool.and_assoc, Bool.and_assoc, ← Bool.and_assoc (decide (1 ≤ a)), hn]
        simp
      simp [Φ_is_fraction, f_is_fraction, h1, h2, hb.1, hb.2, e]
  · have hn : (decide (2 ≤ b) && decide (b ≤ 30)) = false := by
      rw [← Bool.not_eq_true, Bool.and_eq_true]
      simpa using hb
    rw [hn] at h1
    have e : isFr a b = false := by
      unfold isFr
      rw [hn]
      simp
    simp [Φ_is_fraction, f_is_fraction, h1, e]
theorem isFr_iff {a b : Int} (h : isFr a b = true) : 2 ≤ b ∧ b ≤ 30 ∧ 1 ≤ a ∧ a ≤ b - 1 ∧ gcdI b a = 1 := by
  unfold isFr at h
  simp only [Bool.and_eq_true, decide_eq_true_eq] at h
  omega
theorem Φ_check_fraction_eq (a b : Int) : Φ_check_fraction [.tup [.int a, .int b]] = if isFr a b = true then .ok .non [] else .raise 0 [] := by
  by_cases h : isFr a b = true <;> simp [Φ_check_fraction, f_check_fraction, Φ_is_fraction_eq, h]
theorem ints?_dT : ∀ {xs : List (List Int)}, xs ≠ [] → ints? (xs.map dT) = none
  | [], h => absurd rfl h
  | x :: xs, _ => by simp [ints?]
@[simp] theorem oSorted_tups (xs : List (List Int)) (h : xs.all (fun n => !n.isEmpty) = true) : oSorted [.lst (xs.map dT)] = some (.lst ((sortT xs).map dT)) := by
  unfold oSorted
  show (match ints? (xs.map dT) with
    | some ns => some (D.lst ((sortI ns).map .int))
    | none => match tups? (xs.map dT) with
      | some nss => if nss.all (fun n => !n.isEmpty) = true then some (.lst ((sortT nss).map dT)) else none
      | none => none) = _
  cases xs with
  | nil => rfl
  | cons x xs =>
    rw [ints?_dT (by simp), tups?_map]
    simp only [h, if_true]
/-- what d gives to the sums of two parts of a/b -/
def pairOf (a b low d : Int) : Option (List Int) :=
  if b * b % d = 0 ∧ (b + d) % a = 0 then (if low < (b + d) / a then some [(b + d) / a, (b + b * b / d) / a] else none) else none
def intsR (lo hi : Int) : List Int := (List.range (hi - lo).toNat).map fun i => lo + (i : Nat)
theorem rangeD_ints (lo hi : Int) : rangeD lo hi = (intsR lo hi).map .int := by
  unfold rangeD intsR
  rw [List.map_map]
  rfl
theorem mem_intsR {lo hi x : Int} : x ∈ intsR lo hi ↔ lo ≤ x ∧ x < hi := by
  unfold intsR
  rw [List.mem_map]
  constructor
  · rintro ⟨i, hi, rfl⟩
    rw [List.mem_range] at hi
    omega
  · intro h
    exact ⟨(x - lo).toNat, by rw [List.mem_range]; omega, by omega⟩
def plS (a b low : Int) : List (List Int) := sortT ((intsR 1 b).filterMap (pairOf a b low))
theorem pair_run (e0 : Option D) (a b low : Int) (ha : 0 < a) (ha' : a ≤ 10 ^ 30) (hb : 0 < b) (hb' : b ≤ 10 ^ 30) : ∀ (xs : List Int) (acc : List (List Int)) (o5 o6 o7 : Option D), (∀ x ∈ xs, 0 < x ∧ x ≤ 10 ^ 30) → acc.length + xs.length ≤ 1000000 →
    ∃ o5' o6' o7', forRun (gN 5) (sIfS (sAndT (sB (s2 oEq (s2 oMod (s2 dMul (sVar 3) (sVar 3)) (sVar 5)) (sC (.int 0)))) (sB (s2 oEq (s2 oMod (s2 dAdd (sVar 3) (sVar 5)) (sVar 2)) (sC (.int 0))))) (sSeq2 (sPar 6 7 .all .all (s2 oDiv (s2 dAdd (sVar 3) (sVar 5)) (sVar 2)) (s2 oDiv (s2 dAdd (sVar 3) (s2 oDiv (s2 dMul (sVar 3) (sVar 3)) (sVar 5))) (sVar 2)))
      (sIfS (sB (s2 oGt (sVar 6) (sVar 1))) (sApp 4 (sTup (sCons (sVar 6) (sCons (sVar 7) sNil)))) sNx)) sNx) (xs.map .int)
      [e0, some (.int low), some (.int a), some (.int b), some (.lst (acc.map dT)), o5, o6, o7] =
    .ok .nx [e0, some (.int low), some (.int a), some (.int b), some (.lst ((acc ++ xs.filterMap (pairOf a b low)).map dT)), o5', o6', o7']
  | [], acc, o5, o6, o7, _, _ => ⟨o5, o6, o7, by simp⟩
  | x :: xs, acc, o5, o6, o7, hx, hl => by
    obtain ⟨x1, x2⟩ := hx x List.mem_cons_self
    have hx' : ∀ y ∈ xs, 0 < y ∧ y ≤ 10 ^ 30 := fun y hy => hx y (List.mem_cons_of_mem _ hy)
    have sb := sm_of (Int.le_of_lt hb) hb'
    have sx := divB_sm x1 (sm_of (Int.le_of_lt x1) x2)
    have sa := divB_sm ha (sm_of (Int.le_of_lt ha) ha')
    have m := mulB_sm sb sb
    have hm : lim acc.length = true := decide_eq_true (by simp at hl; omega)
    by_cases c1 : b * b % x = 0
    · by_cases c2 : (b + x) % a = 0
      · by_cases c3 : low < (b + x) / a
        · obtain ⟨o5', o6', o7', ih⟩ := pair_run e0 a b low ha ha' hb hb' xs (acc ++ [[(b + x) / a, (b + b * b / x) / a]]) (some (.int x)) (some (.int ((b + x) / a))) (some (.int ((b + b * b / x) / a))) hx' (by simp at hl ⊢; omega)
          refine ⟨o5', o6', o7', ?_⟩
          have e : pairOf a b low x = some [(b + x) / a, (b + b * b / x) / a] := by unfold pairOf; rw [if_pos ⟨c1, c2⟩, if_pos c3]
          rw [List.map_cons, forRun, List.filterMap_cons, e]
          simp only [List.append_assoc, List.singleton_append] at ih
          simp [m, sx, sa, x1, ha, c1, c2, c3, hm, -forRun]
          simpa using ih
        · obtain ⟨o5', o6', o7', ih⟩ := pair_run e0 a b low ha ha' hb hb' xs acc (some (.int x)) (some (.int ((b + x) / a))) (some (.int ((b + b * b / x) / a))) hx' (by simp at hl ⊢; omega)
          refine ⟨o5', o6', o7', ?_⟩
          have e : pairOf a b low x = none := by unfold pairOf; rw [if_pos ⟨c1, c2⟩, if_neg c3]
          rw [List.map_cons, forRun, List.filterMap_cons, e]
          simp [m, sx, sa, x1, ha, c1, c2, c3, hm, -forRun]
          simpa using ih
      · obtain ⟨o5', o6', o7', ih⟩ := pair_run e0 a b low ha ha' hb hb' xs acc (some (.int x)) o6 o7 hx' (by simp at hl ⊢; omega)
        refine ⟨o5', o6', o7', ?_⟩
        have e : pairOf a b low x = none := by unfold pairOf; rw [if_neg (fun z => c2 z.2)]
        rw [List.map_cons, forRun, List.filterMap_cons, e]
        simp [m, sx, sa, x1, ha, c1, c2, hm, -forRun]
        simpa using ih
    · obtain ⟨o5', o6', o7', ih⟩ := pair_run e0 a b low ha ha' hb hb' xs acc (some (.int x)) o6 o7 hx' (by simp at hl ⊢; omega)
      refine ⟨o5', o6', o7', ?_⟩
      have e : pairOf a b low x = none := by unfold pairOf; rw [if_neg (fun z => c1 z.1)]
      rw [List.map_cons, forRun, List.filterMap_cons, e]
      simp [m, sx, sa, x1, ha, c1, hm, -forRun]
      simpa using ih
theorem pairOf_ne {a b low d : Int} {x : List Int} (h : pairOf a b low d = some x) : (!x.isEmpty) = true := by
  unfold pairOf at h
  split at h
  · split at h
    · cases h; rfl
    · cases h
  · cases h
theorem Φ_pair_list_eq (a b low : Int) (ha : 0 < a) (ha' : a ≤ 10 ^ 30) (hb : 0 < b) (hb' : b ≤ 1000000) : Φ_pair_list [.tup [.int a, .int b], .int low] = .ok (.lst ((plS a b low).map dT)) [] := by
  have e30 : (10 : Int) ^ 30 = 1000000000000000000000000000000 := by decide
  obtain ⟨o5, o6, o7, r⟩ := pair_run (some (.tup [.int a, .int b])) a b low ha ha' hb (by omega) (intsR 1 b) [] none none none (fun x hx => by rw [mem_intsR] at hx; omega) (by simp [intsR]; omega)
  have r1 : rgB 1 = true := rgB_of (by omega) (by omega)
  have r2 : rgB b = true := rgB_of (by omega) (by omega)
  have hs := oSorted_tups ((intsR 1 b).filterMap (pairOf a b low)) (by
    rw [List.all_eq_true]
    intro x hx
    obtain ⟨d, _, e⟩ := List.mem_filterMap.mp hx
    exact pairOf_ne e)
  obtain ⟨l, hl⟩ : ∃ l, l = (intsR 1 b).filterMap (pairOf a b low) := ⟨_, rfl⟩
  rw [← hl] at hs
  rw [List.nil_append, ← hl, List.map_nil] at r
  unfold plS
  rw [← hl]
  simp [Φ_pair_list, f_pair_list, r1, r2, rangeD_ints, r, hs, -forRun]
end Ev

set_option Elab.async false
set_option linter.all false
set_option maxRecDepth 100000
set_option maxHeartbeats 4000000
/-! P7: a drawn fraction; sums of few parts; divisors. -/
namespace Ev
open PySem L2
theorem range3 : List.range 3 = [0, 1, 2] := rfl
theorem range2 : List.range 2 = [0, 1] := rfl
theorem pick_ok (K : PySem.W.Frag) (ns : List Int) (h : Bits ns) (k : Nat) (hk : k < 1000000) (xs : List Int) (hx : xs ≠ []) : ∃ x, x ∈ xs ∧ Φ_law_pick K [.scr K ns, .town k, .lst (xs.map .int)] = .ok (.int x) [.scr K ns, .town (k + 1), .lst (xs.map .int)] := by
  have hp : 0 < xs.length := List.length_pos_iff.mpr hx
  obtain ⟨r, h0, h1, d⟩ := draw_ok K ns h k hk (xs.length : Int) (by omega)
  obtain ⟨x, hm, e⟩ := atI_ok h0 h1
  refine ⟨x, hm, ?_⟩
  have e' : atI (xs.map D.int) r = some (.int x) := by
    unfold atI at e ⊢
    rw [List.length_map]
    cases q : ixN xs.length r with
    | none => rw [q] at e; cases e
    | some j =>
      rw [q] at e
      show (xs.map D.int)[j]? = _
      rw [List.getElem?_map, (show xs[j]? = some x from e)]
      rfl
  simp [Φ_law_pick, f_law_pick, d, e', range3]
theorem share_lc (a0 a1 a3 : Option D) (b : Int) (hb : 2 ≤ b) (hb' : b ≤ 30) :
    sLc .var [3] (sRange2 (sCons (sC (.int 1)) (sCons (sVar 2) sNil))) (gN 3) (sB (s2 oEq (sCallF Φ_law_shared [none, none] (sCons (sVar 2) (sCons (sVar 3) sNil))) (sC (.int 1)))) (sVar 3) [a0, a1, some (.int b), a3] =
      .ok (.lst (((intsR 1 b).filter fun a => decide (gcdI b a = 1)).map .int)) [a0, a1, some (.int b), a3] := by
  have r1 : rgB 1 = true := rgB_of (by omega) (by omega)
  have r2 : rgB b = true := rgB_of (by omega) (by omega)
  rw [sLc_of D.int (fun x => if decide (gcdI b x = 1) = true then some (.int x) else none) (intsR 1 b) (by simp [r1, r2, rangeD_ints]) (by simp [intsR]; omega) (fun x hx => ?_), fm_filter]
  rw [mem_intsR] at hx
  have e := Φ_law_shared_eq b x (by omega) (by omega) (sm_of (by omega) (by
    have : (10 : Int) ^ 30 = 1000000000000000000000000000000 := by decide
    omega))
  by_cases g : gcdI b x = 1 <;> simp [e, g]
theorem share_ok (K : PySem.W.Frag) (ns : List Int) (h : Bits ns) (k : Nat) (hk : k < 1000) : ∃ a b, isFr a b = true ∧ Φ_law_some_share K [.scr K ns, .town k] = .ok (.tup [.int a, .int b]) [.scr K ns, .town (k + 2)] := by
  obtain ⟨r, h0, h1, d⟩ := draw_ok K ns h k (by omega) 29 (by decide)
  obtain ⟨b, hb⟩ : ∃ b, b = 2 + r := ⟨_, rfl⟩
  have z := fun a0 a1 a3 => share_lc a0 a1 a3 b (by omega) (by omega)
  obtain ⟨l, hl⟩ : ∃ l, l = (intsR 1 b).filter fun a => decide (gcdI b a = 1) := ⟨_, rfl⟩
  simp only [← hl] at z
  have g1 : gcdI b 1 = 1 := by
    unfold gcdI
    rw [show (1 : Int).toNat = 1 from rfl, Nat.gcd_one_right]
    rfl
  have hne : l ≠ [] := by
    rw [hl]
    intro q
    have : (1 : Int) ∈ (intsR 1 b).filter fun a => decide (gcdI b a = 1) := List.mem_filter.mpr ⟨mem_intsR.mpr (by omega), decide_eq_true g1⟩
    rw [q] at this
    cases this
  obtain ⟨x, hx, p⟩ := pick_ok K ns h (k + 1) (by omega) l hne
  rw [hl, List.mem_filter, mem_intsR] at hx
  refine ⟨x, b, ?_, ?_⟩
  · unfold isFr
    simp only [Bool.and_eq_true, decide_eq_true_eq]
    have := of_decide_eq_true hx.2
    omega
  · simp [Φ_law_some_share, f_law_some_share, d, ← hb, z, p, -sLc, range2]
theorem Φ_sum_list_1 (m : Nat) (a b low : Int) (f : Bool) : Φ_sum_list (m + 1) [.tup [.int a, .int b], .int 1, .int low, .bl f] = .ok (.lst ((if a = 1 ∧ low < b then [[b]] else []).map dT)) [] := by
  by_cases h1 : a = 1
  · by_cases h2 : low < b
    · simp [Φ_sum_list, f_sum_list, h1, h2]
    · simp [Φ_sum_list, f_sum_list, h1, h2]
  · simp [Φ_sum_list, f_sum_list, h1]
theorem cut_head (xs : List (List Int)) : cutD (xs.map dT) none (some 1) = (xs.take 1).map dT := by
  unfold cutD
  rw [HT.sIx_none, show (1 : Int) = ((1 : Nat) : Int) from rfl, HT.sIx_nat, List.length_map, List.drop_zero, Nat.sub_zero]
  cases xs with
  | nil => rfl
  | cons x xs => simp
theorem Φ_sum_list_2 (m : Nat) (a b low : Int) (f : Bool) (ha : 0 < a) (ha' : a ≤ 10 ^ 30) (hb : 0 < b) (hb' : b ≤ 1000000) : Φ_sum_list (m + 1) [.tup [.int a, .int b], .int 2, .int low, .bl f] = .ok (.lst ((if f then (plS a b low).take 1 else plS a b low).map dT)) [] := by
  have e := Φ_pair_list_eq a b low ha ha' hb hb'
  obtain ⟨l, hl⟩ : ∃ l, l = plS a b low := ⟨_, rfl⟩
  rw [← hl] at e ⊢
  have c := cut_head l
  obtain ⟨t, ht⟩ : ∃ t, t = l.take 1 := ⟨_, rfl⟩
  rw [← ht] at c ⊢
  cases f
  · simp [Φ_sum_list, f_sum_list, e]
  · simp [Φ_sum_list, f_sum_list, e, c]
def divS (n : Int) : List Int := (intsR 1 (n + 1)).filter fun x => decide (n % x = 0)
theorem Φ_divisor_list_eq (n : Int) (h0 : 0 < n) (h : n ≤ 100000) : Φ_divisor_list [.int n] = .ok (.lst ((divS n).map .int)) [] := by
  have r1 : rgB 1 = true := rgB_of (by omega) (by omega)
  have r2 : rgB (n + 1) = true := rgB_of (by omega) (by omega)
  have z : sLc .var [1] (sRange2 (sCons (sC (.int 1)) (sCons (s2 dAdd (sVar 0) (sC (.int 1))) sNil))) (gN 1) (sB (s2 oEq (s2 oMod (sVar 0) (sVar 1)) (sC (.int 0)))) (sVar 1) [some (.int n), none] = .ok (.lst ((divS n).map .int)) [some (.int n), none] := by
    rw [sLc_of D.int (fun x => if decide (n % x = 0) = true then some (.int x) else none) (intsR 1 (n + 1)) (by simp [r1, r2, rangeD_ints]) (by simp [intsR]; omega) (fun x hx => ?_), fm_filter]
    · rfl
    · rw [mem_intsR] at hx
      by_cases g : n % x = 0 <;> simp [g, show 0 < x by omega]
  obtain ⟨l, hl⟩ : ∃ l, l = divS n := ⟨_, rfl⟩
  rw [← hl] at z ⊢
  simp [Φ_divisor_list, f_divisor_list, z, -sLc]
theorem Φ_divisors_eq (n : Int) (h0 : 0 < n) (h : n ≤ 200) : Φ_divisors [.int n] = .ok (.lst ((divS n).map .int)) [] := by
  have e := Φ_divisor_list_eq n h0 (by omega)
  have i := Φ_is_integer_eq n 1 200
  rw [decide_eq_true (show 1 ≤ n by omega), decide_eq_true h] at i
  simp [Φ_divisors, f_divisors, Φ_check_number, f_check_number, i, e]
theorem Φ_pairs_eq (a b : Int) (h : isFr a b = true) : Φ_pairs [.tup [.int a, .int b]] = .ok (.lst ((plS a b 1).map dT)) [] := by
  have c := Φ_check_fraction_eq a b
  rw [if_pos h] at c
  have i := isFr_iff h
  have e30 : (10 : Int) ^ 30 = 1000000000000000000000000000000 := by decide
  have e := Φ_pair_list_eq a b 1 (by omega) (by omega) (by omega) (by omega)
  simp [Φ_pairs, f_pairs, c, e]
theorem Φ_has_pair_eq (a b : Int) (h : isFr a b = true) : Φ_has_pair [.tup [.int a, .int b]] = .ok (.bl (!decide (plS a b 1 = []))) [] := by
  have c := Φ_check_fraction_eq a b
  rw [if_pos h] at c
  have i := isFr_iff h
  have e30 : (10 : Int) ^ 30 = 1000000000000000000000000000000 := by decide
  have e := Φ_pair_list_eq a b 1 (by omega) (by omega) (by omega) (by omega)
  have n := oNe_tups (plS a b 1) []
  simp only [List.map_nil] at n
  simp [Φ_has_pair, f_has_pair, c, e, n]
end Ev

set_option Elab.async false
set_option linter.all false
set_option maxRecDepth 100000
set_option maxHeartbeats 4000000
/-! P8: sums of three parts. -/
namespace Ev
open PySem L2
theorem Φ_greatest_in_eq (a b : Int) (ha : 0 < a) (ha' : a ≤ 10 ^ 30) : Φ_greatest_in [.tup [.int a, .int b]] = .ok (.int ((b + a - 1) / a)) [] := by
  have d := divB_sm ha (sm_of (by omega) ha')
  simp [Φ_greatest_in, f_greatest_in, d]
def ltS (a b p : Int) : List Int := low (a * p - b) (b * p)
theorem Φ_less_part_eq (a b p : Int) (ha : 0 < a) (ha' : a ≤ 10 ^ 12) (hb : 0 < b) (hb' : b ≤ 10 ^ 12) (hp : 0 < p) (hp' : p ≤ 10 ^ 12) (h : b ≤ a * p) : Φ_less_part [.tup [.int a, .int b], .int p] = .ok (.tup ((ltS a b p).map .int)) [] := by
  have e12 : (10 : Int) ^ 12 = 1000000000000 := by decide
  have e30 : (10 : Int) ^ 30 = 1000000000000000000000000000000 := by decide
  have m1 : mulB a p = true := mulB_sm (sm_of (by omega) (by omega)) (sm_of (by omega) (by omega))
  have m2 : mulB b p = true := mulB_sm (sm_of (by omega) (by omega)) (sm_of (by omega) (by omega))
  have u1 : a * p ≤ 10 ^ 12 * 10 ^ 12 := Int.mul_le_mul ha' hp' (by omega) (by decide)
  have u2 : b * p ≤ 10 ^ 12 * 10 ^ 12 := Int.mul_le_mul hb' hp' (by omega) (by decide)
  have u3 : (10 : Int) ^ 12 * 10 ^ 12 ≤ 10 ^ 30 := by decide
  have hbp : 0 < b * p := Int.mul_pos hb hp
  have l := Φ_lowest_eq (a * p - b) (b * p) (by omega) hbp (sm_of (by omega) (by omega)) (sm_of (by omega) (by omega))
  simp only [low, dT, List.map_cons, List.map_nil] at l
  simp [Φ_less_part, f_less_part, m1, m2, l, ltS, low]
/-- the loop, n turns at most, all bounds looked at -/
def loopC (rec : Int → Int → Int → Option (List (List Int))) (c a b : Int) (first : Bool) : Nat → Int → List (List Int) → Option (List (List Int))
  | 0, _, _ => none
  | n + 1, part, found =>
    if a * part < c * b ∧ ¬ (first = true ∧ found ≠ []) then
      match ltS a b part with
      | [x, y] => if 0 < x then
          match rec x y part with
          | some l => if l.length ≤ 1000 ∧ found.length ≤ 100000 ∧ (l.all fun v => decide (v.length ≤ 1000)) = true then loopC rec c a b first n (part + 1) (found ++ l.map (part :: ·)) else none
          | none => none
        else loopC rec c a b first n (part + 1) found
      | _ => none
    else some found
def slC : Nat → Int → Int → Int → Int → Bool → Option (List (List Int))
  | 0, _, _, _, _, _ => none
  | n + 1, c, a, b, low, first =>
    if c = 1 then some (if a = 1 ∧ low < b then [[b]] else [])
    else if a ≤ 1000000 ∧ b ≤ 1000000 then
      if c = 2 then some (if first then (plS a b low).take 1 else plS a b low)
      else if 2 < c ∧ c ≤ 10 ∧ 0 ≤ low ∧ low ≤ 1000000 then loopC (fun x y p => slC n (c - 1) x y p first) c a b first 10000 (max (low + 1) ((b + a - 1) / a)) []
      else none
    else none
theorem cons_lc (a0 a1 a2 a3 a4 a6 a7 : Option D) (part : Int) (Φ : List D → COut) (args : List D) (l : List (List Int)) (g : En → Out (List D)) (hg : g [a0, a1, a2, a3, a4, some (.int part), a6, a7] = .ok args [a0, a1, a2, a3, a4, some (.int part), a6, a7])
    (hf : fillX [a0, a1, a2, a3, a4, some (.int part), a6, a7] [none, none, none, none] args = args) (h : Φ args = .ok (.lst (l.map dT)) []) (hl : l.length ≤ 1000000) (hl2 : ∀ x ∈ l, x.length ≤ 1000) :
    sLc .out [7] (sSeq .all (sCallF Φ [none, none, none, none] g)) (gN 7) sYes (s2 dAdd (sTup (sCons (sVar 5) sNil)) (sVar 7)) [a0, a1, a2, a3, a4, some (.int part), a6, a7] =
      .ok (.lst ((l.map (part :: ·)).map dT)) [a0, a1, a2, a3, a4, some (.int part), a6, a7] := by
  have hx : ∀ ds : List D, putX [a0, a1, a2, a3, a4, some (.int part), a6, a7] [none, none, none, none] ([] : List D) = [a0, a1, a2, a3, a4, some (.int part), a6, a7] := fun _ => rfl
  rw [sLc_of dT (fun x => some (dT (part :: x))) l ?_ hl (fun x hx => ?_), fm_some, List.map_map]
  · rfl
  · simp [hg, hf, h]
  · have lm : lim (x.length + 1) = true := decide_eq_true (by have := hl2 x hx; omega)
    rw [Nat.add_comm] at lm
    simp [lm]
def slCond : En → Out Bool := (sAndT (sB (s2 oGt (s2 dMul (sVar 1) (s2 dIx (sVar 0) (sC (.int 1)))) (s2 dMul (s2 dIx (sVar 0) (sC (.int 0))) (sVar 5)))) (sNotT (sAndT (sB (sVar 3)) (sB (s2 oNe (sVar 4) (sLst sNil))))))
def slBody (Φself : List D → COut) : En → Out Fl := (sSeq2 (sSet 6 .all (sCallF Φ_less_part [none, none] (sCons (sVar 0) (sCons (sVar 5) sNil))))
  (sSeq2 (sIfS (sB (s2 oGt (s2 dIx (sVar 6) (sC (.int 0))) (sC (.int 0)))) (sExt 4 (sLc .out [7] (sSeq .all (sCallF Φself [none, none, none, none] (sCons (sVar 6) (sCons (s2 oSub (sVar 1) (sC (.int 1))) (sCons (sVar 5) (sCons (sVar 3) sNil)))))) (gN 7) sYes (s2 dAdd (sTup (sCons (sVar 5) sNil)) (sVar 7)))) sNx)
  (sAug 5 oAdd (sC (.int 1)))))

theorem sl_run (Φself : List D → COut) (rec : Int → Int → Int → Option (List (List Int))) (c a b low : Int) (f : Bool) (hc : 0 < c) (hc' : c ≤ 10) (ha : 0 < a) (ha' : a ≤ 1000000) (hb : 0 < b) (hb' : b ≤ 1000000)
    (hrec : ∀ x y p l, 0 < x → 0 < y → rec x y p = some l → Φself [.tup [.int x, .int y], .int (c - 1), .int p, .bl f] = .ok (.lst (l.map dT)) []) :
    ∀ (n : Nat) (part : Int) (found res : List (List Int)) (o6 o7 : Option D) (m : Nat), 0 < part → part + n ≤ 10 ^ 12 → b ≤ a * part → loopC rec c a b f n part found = some res →
      ∃ p' o6' o7', whRun slCond (slBody Φself) (n + m) [some (.tup [.int a, .int b]), some (.int c), some (.int low), some (.bl f), some (.lst (found.map dT)), some (.int part), o6, o7] =
        .ok .nx [some (.tup [.int a, .int b]), some (.int c), some (.int low), some (.bl f), some (.lst (res.map dT)), some (.int p'), o6', o7']
  | 0, part, found, res, o6, o7, m, hp, hp', hba, h => by cases h
  | n + 1, part, found, res, o6, o7, m, hp, hp', hba, h => by
    have e12 : (10 : Int) ^ 12 = 1000000000000 := by decide
    have e30 : (10 : Int) ^ 30 = 1000000000000000000000000000000 := by decide
    have m1 : mulB c b = true := mulB_sm (sm_of (by omega) (by omega)) (sm_of (by omega) (by omega))
    have m2 : mulB a part = true := mulB_sm (sm_of (by omega) (by omega)) (sm_of (by omega) (by omega))
    have hne := oNe_tups found []
    simp only [List.map_nil] at hne
    obtain ⟨F, hF⟩ : ∃ F, F = found.map dT := ⟨_, rfl⟩
    rw [show n + 1 + m = (n + m) + 1 by omega]
    rw [loopC] at h
    by_cases c1 : a * part < c * b
    · by_cases c2 : f = true ∧ found ≠ []
      · rw [if_neg (fun z => z.2 c2)] at h
        cases h
        obtain ⟨f1, f2⟩ := c2
        subst f1
        refine ⟨part, o6, o7, ?_⟩
        rw [← hF]
        rw [← hF] at hne
        rw [wh_stop (e1 := [some (.tup [.int a, .int b]), some (.int c), some (.int low), some (.bl true), some (.lst F), some (.int part), o6, o7]) (by simp [slCond, m1, m2, c1, hne, f2])]
      · rw [if_pos ⟨c1, c2⟩] at h
        obtain ⟨x, y, e⟩ : ∃ x y, ltS a b part = [x, y] := ⟨_, _, rfl⟩
        have hlp := Φ_less_part_eq a b part ha (by omega) hb (by omega) hp (by omega) hba
        rw [e] at hlp h
        have y0 : 0 < y := by
          have q4 := (low_parts (a := a * part - b) (b := b * part) (by omega) (Int.mul_pos hb hp)).2.2.2
          have e1 : y = (b * part) / gcdI (b * part) (a * part - b) := by
            unfold ltS Ev.low at e
            exact (List.cons.inj (List.cons.inj e).2).1.symm
          rw [e1]; exact q4
        have hb2 : b ≤ a * (part + 1) := by
          rw [Int.mul_add]
          omega
        have hc1 : slCond [some (.tup [.int a, .int b]), some (.int c), some (.int low), some (.bl f), some (.lst (found.map dT)), some (.int part), o6, o7] = .ok true [some (.tup [.int a, .int b]), some (.int c), some (.int low), some (.bl f), some (.lst (found.map dT)), some (.int part), o6, o7] := by
          rw [← hF] at hne ⊢
          cases f with
          | true =>
            have : found = [] := by
              refine Classical.byContradiction fun z => c2 ⟨rfl, z⟩
            simp [slCond, m1, m2, c1, hne, this]
          | false => simp [slCond, m1, m2, c1]
        simp only at h
        by_cases hx : 0 < x
        · rw [if_pos hx] at h
          cases hr : rec x y part with
          | none => rw [hr] at h; cases h
          | some l =>
            rw [hr] at h
            simp only at h
            split at h
            · rename_i hk
              obtain ⟨k1, k2, k3⟩ := hk
              have r1 := hrec x y part l hx y0 hr
              obtain ⟨p', o6', o7', ih⟩ := sl_run Φself rec c a b low f hc hc' ha ha' hb hb' hrec n (part + 1) (found ++ l.map (part :: ·)) res (some (.tup [.int x, .int y])) o7 m (by omega) (by omega) hb2 h
              refine ⟨p', o6', o7', ?_⟩
              rw [← ih]
              refine wh_step hc1 ?_
              have z := fun (a7 : Option D) => cons_lc (some (.tup [.int a, .int b])) (some (.int c)) (some (.int low)) (some (.bl f)) (some (.lst (found.map dT))) (some (.tup [.int x, .int y])) a7 part Φself [.tup [.int x, .int y], .int (c - 1), .int part, .bl f] l (sCons (sVar 6) (sCons (s2 oSub (sVar 1) (sC (.int 1))) (sCons (sVar 5) (sCons (sVar 3) sNil)))) (by simp) rfl r1 (by omega) (fun v hv => of_decide_eq_true (List.all_eq_true.mp k3 v hv))
              obtain ⟨G, hG⟩ : ∃ G, G = l.map (part :: ·) := ⟨_, rfl⟩
              simp only [← hG] at z ⊢
              have lf1 : lfrees (G.map dT) = true := lfrees_tups G
              have ll : lim (found.length + G.length) = true := by
                refine decide_eq_true ?_
                rw [hG, List.length_map]
                omega
              rw [List.map_append]
              obtain ⟨GD, hGD⟩ : ∃ GD, GD = G.map dT := ⟨_, rfl⟩
              have hgl : GD.length = G.length := by rw [hGD, List.length_map]
              have hfl : F.length = found.length := by rw [hF, List.length_map]
              rw [← hgl, ← hfl] at ll
              rw [← hGD, ← hF]
              rw [← hGD] at lf1
              simp only [← hGD, ← hF] at z
              simp [slBody, hlp, hx, z o7, lf1, ll, -sLc]
            · cases h
        · rw [if_neg hx] at h
          obtain ⟨p', o6', o7', ih⟩ := sl_run Φself rec c a b low f hc hc' ha ha' hb hb' hrec n (part + 1) found res (some (.tup [.int x, .int y])) o7 m (by omega) (by omega) hb2 h
          refine ⟨p', o6', o7', ?_⟩
          rw [← ih]
          refine wh_step hc1 ?_
          rw [← hF]
          simp [slBody, hlp, hx]
    · rw [if_neg (fun z => c1 z.1)] at h
      cases h
      refine ⟨part, o6, o7, ?_⟩
      rw [wh_stop (e1 := [some (.tup [.int a, .int b]), some (.int c), some (.int low), some (.bl f), some (.lst (found.map dT)), some (.int part), o6, o7]) (by simp [slCond, m1, m2, c1])]
theorem ceil_ok {a b p : Int} (ha : 0 < a) (h : (b + a - 1) / a ≤ p) : b ≤ a * p := by
  have h1 := Int.lt_ediv_add_one_mul_self (b + a - 1) ha
  have h2 := Int.mul_le_mul_of_nonneg_right h (show 0 ≤ a by omega)
  rw [Int.add_mul] at h1
  rw [Int.mul_comm]
  omega
theorem fuel_ge {k : Nat} (h : k ≤ 100000) : ∃ m, fuelW = k + m := ⟨fuelW - k, by
  have : 100000 ≤ fuelW := by unfold fuelW; decide +kernel
  omega⟩
theorem Φ_sum_list_eq : ∀ (n m : Nat) (c a b low : Int) (f : Bool) (l : List (List Int)), 0 < a → 0 < b → slC n c a b low f = some l → Φ_sum_list (n + m) [.tup [.int a, .int b], .int c, .int low, .bl f] = .ok (.lst (l.map dT)) []
  | 0, m, c, a, b, low, f, l, ha, hb, h => by cases h
  | n + 1, m, c, a, b, low, f, l, ha, hb, h => by
    rw [show n + 1 + m = (n + m) + 1 by omega]
    have e12 : (10 : Int) ^ 12 = 1000000000000 := by decide
    have e30 : (10 : Int) ^ 30 = 1000000000000000000000000000000 := by decide
    unfold slC at h
    split at h
    · rename_i hc
      subst hc
      cases h
      exact Φ_sum_list_1 (n + m) a b low f
    · split at h
      · rename_i hc1 hab
        split at h
        · rename_i hc
          subst hc
          cases h
          exact Φ_sum_list_2 (n + m) a b low f ha (by omega) hb (by omega)
        · rename_i hc2
          split at h
          · rename_i hk
            have hg := Φ_greatest_in_eq a b ha (by omega)
            obtain ⟨g, hgd⟩ : ∃ g, g = (b + a - 1) / a := ⟨_, rfl⟩
            rw [← hgd] at hg h
            have g0 : 0 ≤ g := by rw [hgd]; exact Int.ediv_nonneg (by omega) (by omega)
            have g1 : g ≤ 3000000 := by rw [hgd]; exact Int.le_trans (Int.ediv_le_self _ (by omega)) (by omega)
            obtain ⟨p0, hp0⟩ : ∃ p0, p0 = (if g > low + 1 then g else low + 1) := ⟨_, rfl⟩
            have hmax : max (low + 1) g = p0 := by
              rw [hp0, Int.max_def]
              split <;> split <;> omega
            have pp : 0 < p0 ∧ p0 ≤ 3000000 ∧ g ≤ p0 := by rw [hp0]; split <;> omega
            rw [hmax] at h
            have hba := ceil_ok (b := b) ha (show (b + a - 1) / a ≤ p0 by rw [← hgd]; exact pp.2.2)
            obtain ⟨M, hM⟩ := fuel_ge (k := 10000) (by decide)
            obtain ⟨p', o6, o7, r⟩ := sl_run (Φ_sum_list (n + m)) (fun x y p => slC n (c - 1) x y p f) c a b low f (by omega) (by omega) ha hab.1 hb hab.2
              (fun x y p l hx hy e => Φ_sum_list_eq n m (c - 1) x y p f l hx hy e) 10000 p0 [] l none none M pp.1 (by omega) hba h
            rw [← hM] at r
            obtain ⟨L, hL⟩ : ∃ L, L = l.map dT := ⟨_, rfl⟩
            have lf : lfrees L = true := by rw [hL]; exact lfrees_tups l
            rw [← hL] at r ⊢
            unfold slCond slBody at r
            simp only [List.map_nil] at r
            simp [Φ_sum_list, f_sum_list, hg, ← hp0, r, lf, hc1, hc2, -sLc]
          · cases h
      · cases h
end Ev

set_option Elab.async false
set_option linter.all false
set_option maxRecDepth 100000
set_option maxHeartbeats 4000000
/-! P9: a sum's total by a common multiple; splits keep it. -/
namespace Ev
open PySem L2
/-- the total times K -/
def SK (K : Int) : List Int → Int
  | [] => 0
  | x :: xs => K / x + SK K xs
theorem SK_append (K : Int) : ∀ xs ys : List Int, SK K (xs ++ ys) = SK K xs + SK K ys
  | [], ys => by simp [SK]
  | x :: xs, ys => by simp [SK, SK_append K xs ys]; omega
theorem SK_perm (K : Int) {xs ys : List Int} (h : xs.Perm ys) : SK K xs = SK K ys := by
  induction h with
  | nil => rfl
  | cons x _ ih => simp [SK, ih]
  | swap x y l => simp [SK]; omega
  | trans _ _ ih1 ih2 => rw [ih1, ih2]
theorem sfold_K (K : Int) : ∀ (xs : List Int) (q : Int × Int), (∀ x ∈ xs, 0 < x ∧ x ∣ K) → (sfold xs q).1 * (K * q.2) = (sfold xs q).2 * (q.1 * K + q.2 * SK K xs)
  | [], (n, d), _ => by simp only [sfold, List.foldl_nil, SK]; rw [Int.mul_zero, Int.add_zero, Int.mul_comm K d, Int.mul_left_comm]
  | x :: xs, (n, d), h => by
    obtain ⟨x0, c, hc⟩ := h x List.mem_cons_self
    have ih := sfold_K K xs (n * x + d, d * x) fun y hy => h y (List.mem_cons_of_mem _ hy)
    have e : sfold (x :: xs) (n, d) = sfold xs (n * x + d, d * x) := rfl
    rw [e]
    have ec : K / x = c := by rw [hc]; exact Int.mul_ediv_cancel_left _ (by omega)
    simp only [SK]
    rw [ec]
    simp only at ih
    have k : x * ((sfold xs (n * x + d, d * x)).1 * (K * d)) = x * ((sfold xs (n * x + d, d * x)).2 * (n * K + d * (c + SK K xs))) := by grind
    exact Int.eq_of_mul_eq_mul_left (by omega) k
theorem sfold_pos : ∀ (xs : List Int) (q : Int × Int), (∀ x ∈ xs, 0 < x) → 0 ≤ q.1 → 0 < q.2 → 0 ≤ (sfold xs q).1 ∧ 0 < (sfold xs q).2
  | [], q, _, h1, h2 => ⟨h1, h2⟩
  | x :: xs, q, h, h1, h2 => by
    have x0 := h x List.mem_cons_self
    exact sfold_pos xs (q.1 * x + q.2, q.2 * x) (fun y hy => h y (List.mem_cons_of_mem _ hy)) (by have := Int.mul_nonneg h1 (show 0 ≤ x by omega); show 0 ≤ q.1 * x + q.2; omega) (Int.mul_pos h2 x0)
theorem low_eq {a b c d : Int} (ha : 0 ≤ a) (hb : 0 < b) (hc : 0 ≤ c) (hd : 0 < d) (h : a * d = c * b) : low a b = low c d := by
  rw [← low_mul ha hb hd, ← low_mul hc hd hb, h, Int.mul_comm b d]
theorem prod_dvd : ∀ (xs : List Int) (q : Int × Int) (x : Int), x ∈ xs → x ∣ (sfold xs q).2
  | y :: xs, q, x, h => by
    have base : ∀ (xs : List Int) (q : Int × Int), q.2 ∣ (sfold xs q).2 := fun xs => by
      induction xs with
      | nil => exact fun q => Int.dvd_refl _
      | cons z zs ih => exact fun q => Int.dvd_trans ⟨z, rfl⟩ (ih (q.1 * z + q.2, q.2 * z))
    rcases List.mem_cons.mp h with e | h
    · subst e
      exact Int.dvd_trans ⟨q.2, Int.mul_comm _ _⟩ (base xs (q.1 * x + q.2, q.2 * x))
    · exact prod_dvd xs (q.1 * y + q.2, q.2 * y) x h
/-- sums that agree at all common multiples have one total -/
theorem tot_ext {xs ys : List Int} (hx : ∀ x ∈ xs, 0 < x) (hy : ∀ x ∈ ys, 0 < x) (h : ∀ K : Int, (∀ x ∈ xs, x ∣ K) → (∀ x ∈ ys, x ∣ K) → SK K xs = SK K ys) : tot xs = tot ys := by
  obtain ⟨n1, d1⟩ := sfold_pos xs (0, 1) hx (by decide) (by decide)
  obtain ⟨n2, d2⟩ := sfold_pos ys (0, 1) hy (by decide) (by decide)
  have p1 := fun x h => prod_dvd xs (0, 1) x h
  have p2 := fun x h => prod_dvd ys (0, 1) x h
  obtain ⟨N1, hN1⟩ : ∃ N, N = (sfold xs (0, 1)).1 := ⟨_, rfl⟩
  obtain ⟨D1, hD1⟩ : ∃ N, N = (sfold xs (0, 1)).2 := ⟨_, rfl⟩
  obtain ⟨N2, hN2⟩ : ∃ N, N = (sfold ys (0, 1)).1 := ⟨_, rfl⟩
  obtain ⟨D2, hD2⟩ : ∃ N, N = (sfold ys (0, 1)).2 := ⟨_, rfl⟩
  have k1 : ∀ x ∈ xs, x ∣ D1 * D2 := fun x hm => Int.dvd_trans (by rw [hD1]; exact p1 x hm) ⟨D2, rfl⟩
  have k2 : ∀ x ∈ ys, x ∣ D1 * D2 := fun x hm => Int.dvd_trans (by rw [hD2]; exact p2 x hm) ⟨D1, Int.mul_comm _ _⟩
  have e1 := sfold_K (D1 * D2) xs (0, 1) fun x hm => ⟨hx x hm, k1 x hm⟩
  have e2 := sfold_K (D1 * D2) ys (0, 1) fun x hm => ⟨hy x hm, k2 x hm⟩
  rw [← h _ k1 k2] at e2
  unfold tot
  simp only [← hN1, ← hD1, ← hN2, ← hD2] at *
  refine low_eq n1 d1 n2 d2 ?_
  have dd : 0 < D1 * D2 := Int.mul_pos d1 d2
  refine Int.eq_of_mul_eq_mul_right (show D1 * D2 ≠ 0 by omega) ?_
  simp only [Int.zero_mul, Int.zero_add, Int.one_mul, Int.mul_one] at e1 e2
  grind
theorem incr_pw : ∀ xs : List Int, incr xs = true → xs.Pairwise (· < ·)
  | [], _ => .nil
  | [_], _ => List.pairwise_singleton _ _
  | x :: y :: r, h => by
    rw [incr, Bool.and_eq_true] at h
    have h1 := of_decide_eq_true h.1
    have ih := incr_pw (y :: r) h.2
    refine List.pairwise_cons.mpr ⟨fun z hz => ?_, ih⟩
    rcases List.mem_cons.mp hz with rfl | hz
    · exact h1
    · have := (List.pairwise_cons.mp ih).1 z hz
      omega
theorem pw_incr : ∀ xs : List Int, xs.Pairwise (· < ·) → incr xs = true
  | [], _ => rfl
  | [_], _ => rfl
  | x :: y :: r, h => by
    obtain ⟨h1, h2⟩ := List.pairwise_cons.mp h
    rw [incr, decide_eq_true (h1 y List.mem_cons_self), pw_incr _ h2]; rfl
theorem isSum_iff {xs : List Int} : isSum xs = true ↔ (∀ x ∈ xs, 1 < x) ∧ xs.Pairwise (· < ·) := by
  unfold isSum
  rw [Bool.and_eq_true, List.all_eq_true]
  exact ⟨fun h => ⟨fun x hx => of_decide_eq_true (h.1 x hx), incr_pw _ h.2⟩, fun h => ⟨fun x hx => decide_eq_true (h.1 x hx), pw_incr _ h.2⟩⟩
theorem pw_nodup {xs : List Int} (h : xs.Pairwise (· < ·)) : xs.Nodup := h.imp fun h => by omega
theorem sort_strict {xs : List Int} (h : xs.Nodup) : (sortI xs).Pairwise (· < ·) := by
  have h1 := sortI_sorted xs
  have h2 : (sortI xs).Nodup := (isort_perm xs).nodup_iff.mpr h
  exact (h1.and h2).imp fun h => by omega
theorem mem_sort {xs : List Int} {x : Int} : x ∈ sortI xs ↔ x ∈ xs := (isort_perm xs).mem_iff
theorem SK_filter (K : Int) {p : Int} : ∀ {xs : List Int}, xs.Nodup → p ∈ xs → SK K xs = SK K (xs.filter fun x => !decide (x = p)) + K / p
  | [], _, h => by cases h
  | x :: xs, hn, h => by
    obtain ⟨n1, n2⟩ := List.nodup_cons.mp hn
    by_cases e : x = p
    · subst e
      have : xs.filter (fun z => !decide (z = x)) = xs := List.filter_eq_self.mpr fun z hz => by
        have : z ≠ x := fun q => n1 (q ▸ hz)
        simp [this]
      simp only [SK]
      rw [List.filter_cons_of_neg (by simp), this]
      omega
    · have ih := SK_filter K n2 ((List.mem_cons.mp h).resolve_left fun z => e z.symm)
      rw [List.filter_cons_of_pos (by simp [e])]
      simp only [SK]
      omega
theorem split_sum {xs : List Int} {p : Int} (hs : isSum xs = true) (hp : p ∈ xs) (hc : canSplit xs p = true) : isSum (splitS xs p) = true ∧ tot (splitS xs p) = tot xs ∧ (splitS xs p).length = xs.length + 1 := by
  obtain ⟨h1, h2⟩ := isSum_iff.mp hs
  have hn := pw_nodup h2
  have p1 := h1 p hp
  unfold canSplit at hc
  rw [Bool.and_eq_true] at hc
  have c1 := of_decide_eq_true hc.1
  have c2 := of_decide_eq_true hc.2
  have pp : p + 1 < p * (p + 1) := by
    have := Int.mul_lt_mul_of_pos_right (show 1 < p by omega) (show 0 < p + 1 by omega)
    omega
  have hf : ∀ x, x ∈ (xs.filter fun x => !decide (x = p)) → x ∈ xs := fun x hx => (List.mem_filter.mp hx).1
  have hnf : ((xs.filter fun x => !decide (x = p)) ++ [p + 1, p * (p + 1)]).Nodup := by
    refine List.nodup_append.mpr ⟨hn.sublist List.filter_sublist, ?_, fun x hx y hy => ?_⟩
    · refine List.nodup_cons.mpr ⟨by simp; omega, by simp⟩
    · have hx := hf x hx
      rcases List.mem_cons.mp hy with rfl | hy
      · exact fun e => c1 (e ▸ hx)
      · have : y = p * (p + 1) := by simpa using hy
        subst this
        exact fun e => c2 (e ▸ hx)
  have hpos : ∀ x ∈ splitS xs p, 1 < x := fun x hx => by
    unfold splitS at hx
    rw [mem_sort, List.mem_append] at hx
    rcases hx with hx | hx
    · exact h1 x (hf x hx)
    · rcases List.mem_cons.mp hx with rfl | hx
      · omega
      · have : x = p * (p + 1) := by simpa using hx
        omega
  refine ⟨isSum_iff.mpr ⟨hpos, sort_strict hnf⟩, tot_ext (fun x hx => by have := hpos x hx; omega) (fun x hx => by have := h1 x hx; omega) fun K k1 k2 => ?_, ?_⟩
  · rw [show SK K (splitS xs p) = _ from SK_perm K (isort_perm _), SK_append, SK_filter K hn hp]
    simp only [SK]
    have d : p * (p + 1) ∣ K := k1 _ (by unfold splitS; rw [mem_sort]; simp)
    obtain ⟨t, ht⟩ := d
    have q1 : K / p = (p + 1) * t := by rw [ht, Int.mul_assoc]; exact Int.mul_ediv_cancel_left _ (by omega)
    have q2 : K / (p + 1) = p * t := by rw [ht, Int.mul_comm p (p + 1), Int.mul_assoc]; exact Int.mul_ediv_cancel_left _ (by omega)
    have q3 : K / (p * (p + 1)) = t := by rw [ht]; exact Int.mul_ediv_cancel_left _ (by omega)
    rw [q1, q2, q3, Int.add_mul]
    omega
  · unfold splitS
    rw [(isort_perm _).length_eq, List.length_append]
    have : ∀ {ys : List Int}, ys.Nodup → p ∈ ys → (ys.filter fun x => !decide (x = p)).length + 1 = ys.length := by
      intro ys
      induction ys with
      | nil => intro _ h; cases h
      | cons x ys ih =>
        intro hn h
        obtain ⟨n1, n2⟩ := List.nodup_cons.mp hn
        by_cases e : x = p
        · subst e
          have : ys.filter (fun z => !decide (z = x)) = ys := List.filter_eq_self.mpr fun z hz => by
            have : z ≠ x := fun q => n1 (q ▸ hz)
            simp [this]
          rw [List.filter_cons_of_neg (by simp), this]; rfl
        · have ih := ih n2 ((List.mem_cons.mp h).resolve_left fun z => e z.symm)
          rw [List.filter_cons_of_pos (by simp [e]), List.length_cons, List.length_cons, ih]
    have := this hn hp
    show (xs.filter fun x => !decide (x = p)).length + 2 = _
    omega
/-- the last part can be split -/
theorem last_split {xs : List Int} (hs : isSum xs = true) {p : Int} (hl : xs.getLast? = some p) : p ∈ xs ∧ canSplit xs p = true := by
  obtain ⟨h1, h2⟩ := isSum_iff.mp hs
  have hp : p ∈ xs := List.mem_of_getLast? hl
  have hmax : ∀ x ∈ xs, x ≤ p := by
    obtain ⟨ys, rfl⟩ : ∃ ys, xs = ys ++ [p] := by
      have hne : xs ≠ [] := fun e => by rw [e] at hl; cases hl
      refine ⟨xs.dropLast, ?_⟩
      have := List.dropLast_concat_getLast hne
      rw [List.getLast?_eq_getLast hne] at hl
      rw [← Option.some.inj hl, this]
    intro x hx
    rcases List.mem_append.mp hx with hx | hx
    · have := (List.pairwise_append.mp h2).2.2 x hx p (by simp)
      omega
    · have : x = p := by simpa using hx
      omega
  have p1 := h1 p hp
  have pp : p < p * (p + 1) := by
    have := Int.mul_lt_mul_of_pos_right (show 1 < p by omega) (show 0 < p + 1 by omega)
    omega
  refine ⟨hp, ?_⟩
  have q1 : p + 1 ∉ xs := fun z => by have := hmax _ z; omega
  have q2 : p * (p + 1) ∉ xs := fun z => by have := hmax _ z; omega
  simp [canSplit, q1, q2]
theorem Φ_splittable_eq (xs : List Int) (hg : goodSum xs 11 99 = true) : Φ_splittable [.tup (xs.map .int)] = .ok (.lst ((xs.filter (canSplit xs)).map .int)) [] := by
  obtain ⟨_, a, b⟩ := goodSum_iff hg
  have h1 := Φ_check_sum_eq xs (by omega) 11 99
  rw [if_pos hg] at h1
  have h4 : sLc .var [1] (sSeq .var (sVar 0)) (gN 1) (sB (sCallF Φ_can_split [none, none] (sCons (sVar 0) (sCons (sVar 1) sNil)))) (sVar 1) [some (.tup (xs.map .int)), none] = .ok (.lst ((xs.filter (canSplit xs)).map D.int)) [some (.tup (xs.map .int)), none] := by
    rw [sLc_of D.int (fun x => if canSplit xs x = true then some (.int x) else none) xs (by simp) (by omega) (fun x hx => by
      have z := Φ_can_split_eq xs x (by have := b x hx; omega) (by
        have e6 : (2 : Int) ^ 64 = 18446744073709551616 := by decide
        have := b x hx
        rw [e6]; omega)
      by_cases e : canSplit xs x = true
      · rw [e] at z
        simp [z, e]
      · have e' : canSplit xs x = false := by simpa using e
        rw [e'] at z
        simp [z, e']), fm_filter]
  simp [Φ_splittable, f_splittable, -sLc, h1, h4]
theorem Φ_is_sum_of_eq (a b : Int) (xs : List Int) (h : isFr a b = true) (hs : isSum xs = true) (hl : xs.length ≤ 60) (hx : ∀ x ∈ xs, x ≤ 2 ^ 64) : Φ_is_sum_of [.tup [.int a, .int b], .tup (xs.map .int)] = .ok (.bl (decide (tot xs = [a, b]))) [] := by
  have c := Φ_check_fraction_eq a b
  rw [if_pos h] at c
  have e1 := Φ_is_sum_eq xs (by omega)
  rw [hs] at e1
  have e2 := Φ_total_of_eq xs hl fun x hm => ⟨by have := (isSum_iff.mp hs).1 x hm; omega, hx x hm⟩
  obtain ⟨t, u, e⟩ := pair_ex xs
  rw [e] at e2 ⊢
  by_cases z1 : t = a <;> by_cases z2 : u = b <;> simp [Φ_is_sum_of, f_is_sum_of, c, e1, e2, z1, z2]
theorem Φ_sums_eq (a b c : Int) (l : List (List Int)) (h : isFr a b = true) (hc : 1 ≤ c) (hc' : c ≤ 3) (e : slC 7 c a b 1 false = some l) : Φ_sums [.tup [.int a, .int b], .int c] = .ok (.lst (l.map dT)) [] := by
  have i := isFr_iff h
  have k := Φ_check_fraction_eq a b
  rw [if_pos h] at k
  have e1 := Φ_is_integer_eq c 1 3
  rw [decide_eq_true hc, decide_eq_true hc'] at e1
  have r := Φ_sum_list_eq 7 3 c a b 1 false l (by omega) (by omega) e
  simp only [show 7 + 3 = 10 from rfl] at r
  obtain ⟨L, hL⟩ : ∃ L, L = l.map dT := ⟨_, rfl⟩
  rw [← hL] at r ⊢
  simp [Φ_sums, f_sums, k, e1, r]
/-- the first sum: count by count -/
def firstC (a b : Int) : Nat → Int → Option (List Int)
  | 0, _ => none
  | n + 1, c => match slC 7 c a b 1 true with
    | none => none
    | some [] => firstC a b n (c + 1)
    | some (v :: _) => some v
def foCond : En → Out Bool := (sB (s2 oEq (sVar 2) (sLst sNil)))
def foBody : En → Out Fl := (sSeq2 (sSet 2 .all (sCallF (Φ_sum_list 10) [none, none, none, none] (sCons (sVar 0) (sCons (sVar 1) (sCons (sC (.int 1)) (sCons (sC (.bl true)) sNil))))))
  (sAug 1 oAdd (sC (.int 1))))
theorem first_run (a b : Int) (ha : 0 < a) (hb : 0 < b) : ∀ (n : Nat) (c : Int) (v : List Int) (m : Nat), firstC a b n c = some v → ∃ c' l, whRun foCond foBody (n + m + 1) [some (.tup [.int a, .int b]), some (.int c), some (.lst [])] = .ok .nx [some (.tup [.int a, .int b]), some (.int c'), some (.lst (dT v :: l))]
  | 0, c, v, m, h => by cases h
  | n + 1, c, v, m, h => by
    rw [firstC] at h
    cases e : slC 7 c a b 1 true with
    | none => rw [e] at h; cases h
    | some l =>
      have r := Φ_sum_list_eq 7 3 c a b 1 true l ha hb e
      simp only [show 7 + 3 = 10 from rfl] at r
      rw [e] at h
      have n1 : oEq (.lst []) (.lst []) = some (.bl true) := by simpa using oEq_tups [] []
      cases l with
      | nil =>
        simp only at h
        obtain ⟨c', l', ih⟩ := first_run a b ha hb n (c + 1) v m h
        refine ⟨c', l', ?_⟩
        rw [show n + 1 + m + 1 = (n + m + 1) + 1 by omega, ← ih]
        simp only [List.map_nil] at r
        refine wh_step (e1 := [some (.tup [.int a, .int b]), some (.int c), some (.lst [])]) (by simp [foCond, n1]) (by simp [foBody, r])
      | cons w ws =>
        simp only at h
        cases h
        refine ⟨c + 1, ws.map dT, ?_⟩
        obtain ⟨wd, hwd⟩ : ∃ wd, wd = dT v := ⟨_, rfl⟩
        obtain ⟨wsd, hwsd⟩ : ∃ wd, wd = ws.map dT := ⟨_, rfl⟩
        have n2 := oEq_tups (v :: ws) []
        simp only [List.map_cons, List.map_nil] at r n2
        rw [← hwd, ← hwsd] at r n2 ⊢
        have n3 : oEq (.lst (wd :: wsd)) (.lst []) = some (.bl false) := by rw [n2]; simp
        rw [show n + 1 + m + 1 = ((n + m) + 1) + 1 by omega]
        rw [wh_step (e1 := [some (.tup [.int a, .int b]), some (.int c), some (.lst [])]) (e2 := [some (.tup [.int a, .int b]), some (.int (c + 1)), some (.lst (wd :: wsd))]) (by simp [foCond, n1]) (by simp [foBody, r])]
        exact wh_stop (by simp [foCond, n3])
theorem Φ_first_of_eq (a b : Int) (v : List Int) (ha : 0 < a) (hb : 0 < b) (h : firstC a b 6 1 = some v) : Φ_first_of [.tup [.int a, .int b]] = .ok (dT v) [] := by
  obtain ⟨M, hM⟩ := fuel_ge (k := 7) (by decide)
  obtain ⟨c', l, r⟩ := first_run a b ha hb 6 1 v M h
  rw [show 6 + M + 1 = 7 + M by omega, ← hM] at r
  obtain ⟨wd, hwd⟩ : ∃ wd, wd = dT v := ⟨_, rfl⟩
  have hk : lfree wd = true := by rw [hwd]; simp
  rw [← hwd] at r ⊢
  unfold foCond foBody at r
  simp [Φ_first_of, f_first_of, r, hk]
theorem Φ_first_sum_eq (a b : Int) (v : List Int) (h : isFr a b = true) (hv : firstC a b 6 1 = some v) : Φ_first_sum [.tup [.int a, .int b]] = .ok (.tup (v.map .int)) [] := by
  have i := isFr_iff h
  have k := Φ_check_fraction_eq a b
  rw [if_pos h] at k
  have r := Φ_first_of_eq a b v (by omega) (by omega) hv
  simp [Φ_first_sum, f_first_sum, k, r]
theorem Φ_fewest_eq (a b : Int) (v : List Int) (h : isFr a b = true) (hv : firstC a b 6 1 = some v) : Φ_fewest [.tup [.int a, .int b]] = .ok (.int v.length) [] := by
  have i := isFr_iff h
  have k := Φ_check_fraction_eq a b
  rw [if_pos h] at k
  have r := Φ_first_of_eq a b v (by omega) (by omega) hv
  simp [Φ_fewest, f_fewest, k, r]
end Ev

set_option Elab.async false
set_option linter.all false
set_option maxRecDepth 100000
set_option maxHeartbeats 4000000
/-! PF: all fractions. -/
namespace Ev
open PySem L2
def fr0 : List (Int × Int) := [(1, 2), (1, 3), (2, 3), (1, 4), (3, 4), (1, 5), (2, 5), (3, 5), (4, 5), (1, 6), (5, 6), (1, 7), (2, 7), (3, 7), (4, 7), (5, 7), (6, 7), (1, 8), (3, 8), (5, 8)]
def fr1 : List (Int × Int) := [(7, 8), (1, 9), (2, 9), (4, 9), (5, 9), (7, 9), (8, 9), (1, 10), (3, 10), (7, 10), (9, 10), (1, 11), (2, 11), (3, 11), (4, 11), (5, 11), (6, 11), (7, 11), (8, 11), (9, 11)]
def fr2 : List (Int × Int) := [(10, 11), (1, 12), (5, 12), (7, 12), (11, 12), (1, 13), (2, 13), (3, 13), (4, 13), (5, 13), (6, 13), (7, 13), (8, 13), (9, 13), (10, 13), (11, 13), (12, 13), (1, 14), (3, 14), (5, 14)]
def fr3 : List (Int × Int) := [(9, 14), (11, 14), (13, 14), (1, 15), (2, 15), (4, 15), (7, 15), (8, 15), (11, 15), (13, 15), (14, 15), (1, 16), (3, 16), (5, 16), (7, 16), (9, 16), (11, 16), (13, 16), (15, 16), (1, 17)]
def fr4 : List (Int × Int) := [(2, 17), (3, 17), (4, 17), (5, 17), (6, 17), (7, 17), (8, 17), (9, 17), (10, 17), (11, 17), (12, 17), (13, 17), (14, 17), (15, 17), (16, 17), (1, 18), (5, 18), (7, 18), (11, 18), (13, 18)]
def fr5 : List (Int × Int) := [(17, 18), (1, 19), (2, 19), (3, 19), (4, 19), (5, 19), (6, 19), (7, 19), (8, 19), (9, 19), (10, 19), (11, 19), (12, 19), (13, 19), (14, 19), (15, 19), (16, 19), (17, 19), (18, 19), (1, 20)]
def fr6 : List (Int × Int) := [(3, 20), (7, 20), (9, 20), (11, 20), (13, 20), (17, 20), (19, 20), (1, 21), (2, 21), (4, 21), (5, 21), (8, 21), (10, 21), (11, 21), (13, 21), (16, 21), (17, 21), (19, 21), (20, 21), (1, 22)]
def fr7 : List (Int × Int) := [(3, 22), (5, 22), (7, 22), (9, 22), (13, 22), (15, 22), (17, 22), (19, 22), (21, 22), (1, 23), (2, 23), (3, 23), (4, 23), (5, 23), (6, 23), (7, 23), (8, 23), (9, 23), (10, 23), (11, 23)]
def fr8 : List (Int × Int) := [(12, 23), (13, 23), (14, 23), (15, 23), (16, 23), (17, 23), (18, 23), (19, 23), (20, 23), (21, 23), (22, 23), (1, 24), (5, 24), (7, 24), (11, 24), (13, 24), (17, 24), (19, 24), (23, 24), (1, 25)]
def fr9 : List (Int × Int) := [(2, 25), (3, 25), (4, 25), (6, 25), (7, 25), (8, 25), (9, 25), (11, 25), (12, 25), (13, 25), (14, 25), (16, 25), (17, 25), (18, 25), (19, 25), (21, 25), (22, 25), (23, 25), (24, 25), (1, 26)]
def fr10 : List (Int × Int) := [(3, 26), (5, 26), (7, 26), (9, 26), (11, 26), (15, 26), (17, 26), (19, 26), (21, 26), (23, 26), (25, 26), (1, 27), (2, 27), (4, 27), (5, 27), (7, 27), (8, 27), (10, 27), (11, 27), (13, 27)]
def fr11 : List (Int × Int) := [(14, 27), (16, 27), (17, 27), (19, 27), (20, 27), (22, 27), (23, 27), (25, 27), (26, 27), (1, 28), (3, 28), (5, 28), (9, 28), (11, 28), (13, 28), (15, 28), (17, 28), (19, 28), (23, 28), (25, 28)]
def fr12 : List (Int × Int) := [(27, 28), (1, 29), (2, 29), (3, 29), (4, 29), (5, 29), (6, 29), (7, 29), (8, 29), (9, 29), (10, 29), (11, 29), (12, 29), (13, 29), (14, 29), (15, 29), (16, 29), (17, 29), (18, 29), (19, 29)]
def fr13 : List (Int × Int) := [(20, 29), (21, 29), (22, 29), (23, 29), (24, 29), (25, 29), (26, 29), (27, 29), (28, 29), (1, 30), (7, 30), (11, 30), (13, 30), (17, 30), (19, 30), (23, 30), (29, 30)]
def frs : List (Int × Int) := fr0 ++ fr1 ++ fr2 ++ fr3 ++ fr4 ++ fr5 ++ fr6 ++ fr7 ++ fr8 ++ fr9 ++ fr10 ++ fr11 ++ fr12 ++ fr13
theorem frs_all : ((intsR 2 31).all fun b => (intsR 1 b).all fun a => !isFr a b || decide ((a, b) ∈ frs)) = true := by decide +kernel
theorem mem_frs {a b : Int} (h : isFr a b = true) : (a, b) ∈ frs := by
  have i := isFr_iff h
  have z := List.all_eq_true.mp (List.all_eq_true.mp frs_all b (mem_intsR.mpr (by omega))) a (mem_intsR.mpr (by omega))
  rw [h] at z
  simpa using z
end Ev

set_option Elab.async false
set_option linter.all false
set_option maxRecDepth 100000
set_option maxHeartbeats 4000000
/-! P10: sum_list by its spec, for the kernel. -/
namespace Ev
open PySem L2
def Ψ_sum_list (ds : List D) : COut := match ds with
  | [.tup [.int a, .int b], .int c, .int low, .bl f] => if 0 < a ∧ 0 < b then
      (match slC 7 c a b low f with
      | some l => .ok (.lst (l.map dT)) []
      | none => Φ_sum_list 10 ds)
    else Φ_sum_list 10 ds
  | _ => Φ_sum_list 10 ds
theorem ΦΨ_sum_list10 : Φ_sum_list 10 = Ψ_sum_list := by
  funext ds
  unfold Ψ_sum_list
  split
  · rename_i a b c low f
    split
    · rename_i h
      split
      · rename_i l e
        exact Φ_sum_list_eq 7 3 c a b low f l h.1 h.2 e
      · rfl
    · rfl
  · rfl
def h_sums : En → Out Fl :=
  (sSeq2 (sDrop (sCallF Φ_check_fraction [none] (sCons (sVar 0) sNil)))
  (sSeq2 (sIfS (sNotT (sB (sCallF Φ_is_integer [none, none, none] (sCons (sVar 1) (sCons (sC (.int 1)) (sCons (sC (.int 3)) sNil)))))) (sRaise 2) sNx)
  (sRet .all (sCallF Ψ_sum_list [none, none, none, none] (sCons (sVar 0) (sCons (sVar 1) (sCons (sC (.int 1)) (sCons (sC (.bl false)) sNil))))))))
def Ψ_sums (ds : List D) : COut := outC [] 2 (h_sums (initE 2 ds))
theorem ΦΨ_sums : Φ_sums = Ψ_sums := by
  funext ds
  have e : f_sums = h_sums := by
    unfold f_sums h_sums
    simp only [ΦΨ_sum_list10]
  unfold Φ_sums Ψ_sums
  rw [e]
def h_first_of : En → Out Fl :=
  (sSeq2 (sPar 1 2 .all .all (sC (.int 1)) (sLst sNil))
  (sSeq2 (whRun (sB (s2 oEq (sVar 2) (sLst sNil))) (sSeq2 (sSet 2 .all (sCallF Ψ_sum_list [none, none, none, none] (sCons (sVar 0) (sCons (sVar 1) (sCons (sC (.int 1)) (sCons (sC (.bl true)) sNil))))))
  (sAug 1 oAdd (sC (.int 1)))) fuelW)
  (sRet .var (s2 dIx (sVar 2) (sC (.int 0))))))
def Ψ_first_of (ds : List D) : COut := outC [] 1 (h_first_of (initE 3 ds))
theorem ΦΨ_first_of : Φ_first_of = Ψ_first_of := by
  funext ds
  have e : f_first_of = h_first_of := by
    unfold f_first_of h_first_of
    simp only [ΦΨ_sum_list10, ΦΨ_sums]
  unfold Φ_first_of Ψ_first_of
  rw [e]
def h_fewest : En → Out Fl :=
  (sSeq2 (sDrop (sCallF Φ_check_fraction [none] (sCons (sVar 0) sNil)))
  (sRet .all (sCall oLen (sCons (sCallF Ψ_first_of [none] (sCons (sVar 0) sNil)) sNil))))
def Ψ_fewest (ds : List D) : COut := outC [] 1 (h_fewest (initE 1 ds))
theorem ΦΨ_fewest : Φ_fewest = Ψ_fewest := by
  funext ds
  have e : f_fewest = h_fewest := by
    unfold f_fewest h_fewest
    simp only [ΦΨ_sum_list10, ΦΨ_sums, ΦΨ_first_of]
  unfold Φ_fewest Ψ_fewest
  rw [e]
def h_first_sum : En → Out Fl :=
  (sSeq2 (sDrop (sCallF Φ_check_fraction [none] (sCons (sVar 0) sNil)))
  (sRet .all (sCallF Ψ_first_of [none] (sCons (sVar 0) sNil))))
def Ψ_first_sum (ds : List D) : COut := outC [] 1 (h_first_sum (initE 1 ds))
theorem ΦΨ_first_sum : Φ_first_sum = Ψ_first_sum := by
  funext ds
  have e : f_first_sum = h_first_sum := by
    unfold f_first_sum h_first_sum
    simp only [ΦΨ_sum_list10, ΦΨ_sums, ΦΨ_first_of, ΦΨ_fewest]
  unfold Φ_first_sum Ψ_first_sum
  rw [e]
def h_law_ask_v3 : En → Out Fl :=
  (sTry 2 (sRet .all (sCallF Ψ_sums [none, none] (sCons (sVar 0) (sCons (sVar 1) sNil)))))
def Ψ_law_ask_v3 (ds : List D) : COut := outC [] 2 (h_law_ask_v3 (initE 3 ds))
theorem ΦΨ_law_ask_v3 : Φ_law_ask_v3 = Ψ_law_ask_v3 := by
  funext ds
  have e : f_law_ask_v3 = h_law_ask_v3 := by
    unfold f_law_ask_v3 h_law_ask_v3
    simp only [ΦΨ_sum_list10, ΦΨ_sums, ΦΨ_first_of, ΦΨ_fewest, ΦΨ_first_sum]
  unfold Φ_law_ask_v3 Ψ_law_ask_v3
  rw [e]
end Ev

set_option Elab.async false
set_option linter.all false
set_option maxRecDepth 100000
set_option maxHeartbeats 4000000
namespace Ev
open PySem L2
def f_greedyF : En → Out Fl :=
  (sSeq2 (sDrop (sCallF Φ_check_fraction [none] (sCons (sVar 0) sNil)))
  (sSeq2 (sParM 1 2 .var (sVar 0) (sLim sNil))
  (sSeq2 (whRun (sB (s2 oGt (s2 dIx (sVar 1) (sC (.int 0))) (sC (.int 0)))) (sSeq2 (sApp 2 (sCallF Φ_greatest_in [none] (sCons (sVar 1) sNil)))
  (sSet 1 .all (sCallF Φ_less_part [none, none] (sCons (sVar 1) (sCons (s2 dIx (sVar 2) (s1 oNeg (sC (.int 1)))) sNil))))) fuelW)
  (sRet .bor (sCall oTupleF (sCons (sVar 2) sNil))))))
def Φ_greedyF (ds : List D) : COut := outC [] 1 (f_greedyF (initE 3 ds))
def t0 : En → Out Fl :=
  (sTown 1)
noncomputable def t1 (K : PySem.W.Frag) : En → Out Fl :=
  (sSet 2 .all (sCallF (Φ_law_some_share K) [none, some 1] (sCons (sVar 0) (sConsX 1 sNil))))
def t2 : En → Out Fl :=
  (sSet 3 .all (sCallF Φ_greedyF [none] (sCons (sVar 2) sNil)))
def t3 : En → Out Fl :=
  (sMkX Φ_check_fraction 4 (sVar 2))
def t4 : En → Out Fl :=
  (sFor (sSeq .var (sThaw (sVar 3))) (gN 5) (sSeq2 (sIfS (sB (s2 oNe (sMeth Φ_Cutter_next_part 4 [] sNil) (sVar 5))) (sRet .all (sC (.bl false))) sNx)
  (sIfS (sB (s2 oLe (sVar 5) (sC (.int 9999)))) (sSeq2 (sSet 6 .all (sMeth Φ_Cutter_left 4 [] sNil))
  (sSeq2 (sSet 7 .all (sMeth Φ_Cutter_cut 4 [none] (sCons (sVar 5) sNil)))
  (sIfS (sB (s2 oGe (s2 dMul (s2 dIx (sVar 7) (sC (.int 0))) (s2 dIx (sVar 6) (sC (.int 1)))) (s2 dMul (s2 dIx (sVar 6) (sC (.int 0))) (s2 dIx (sVar 7) (sC (.int 1)))))) (sRet .all (sC (.bl false))) sNx))) (sRet .all (sAnd (s2 oIs' (sCallF Φ_is_sum_of [none, none] (sCons (sVar 2) (sCons (sThaw (sVar 3)) sNil))) (sC (.bl true))) (s2 oEq (sXlen Φ_Cutter_len 4) (sTm (sVar 3) (sVar 5))))))))
def t5 : En → Out Fl :=
  (sIfS (sOrT (sB (s2 oNe (sMeth Φ_Cutter_left 4 [] sNil) (sTup (sCons (sC (.int 0)) (sCons (sC (.int 1)) sNil))))) (sOrT (sB (s2 oIsN' (sMeth Φ_Cutter_next_part 4 [] sNil) (sC .non))) (sOrT (sB (s2 oNe (sMeth Φ_Cutter_parts 4 [] sNil) (sCall oListOf (sCons (sThaw (sVar 3)) sNil)))) (sB (s2 oNe (sXstr Φ_Cutter_str 4) (sCallF Φ_format_sum [none] (sCons (sThaw (sVar 3)) sNil))))))) (sRet .all (sC (.bl false))) sNx)
def t6 : En → Out Fl :=
  (sIfS (sOrT (sB (s2 oNe (sCallF Φ_parse_sum [none] (sCons (sXstr Φ_Cutter_str 4) sNil)) (sThaw (sVar 3)))) (sB (s2 oNe (sCallF Φ_total [none] (sCons (sThaw (sVar 3)) sNil)) (sVar 2)))) (sRet .all (sC (.bl false))) sNx)
def t7 : En → Out Fl :=
  (sSet 8 .all (sCallF Φ_first_sum [none] (sCons (sVar 2) sNil)))
def t8 : En → Out Fl :=
  (sIfS (sOrT (sB (s2 oGt (sCall oLen (sCons (sVar 8) sNil)) (sCall oLen (sCons (sThaw (sVar 3)) sNil)))) (sB (s2 oIsN' (sCallF Φ_is_sum_of [none, none] (sCons (sVar 2) (sCons (sVar 8) sNil))) (sC (.bl true))))) (sRet .all (sC (.bl false))) sNx)
def t9 : En → Out Fl :=
  (sIfS (sB (s2 oLe (s2 dIx (sThaw (sVar 3)) (s1 oNeg (sC (.int 1)))) (sC (.int 99)))) (sSeq2 (sSet 9 .all (sCallF Φ_split [none, none] (sCons (sThaw (sVar 3)) (sCons (s2 dIx (sThaw (sVar 3)) (s1 oNeg (sC (.int 1)))) sNil))))
  (sIfS (sOrT (sB (s2 oNe (sCallF Φ_total [none] (sCons (sVar 9) sNil)) (sVar 2))) (sOrT (sB (s2 oNe (sCut (sVar 9) sNoPart (sPart (s1 oNeg (sC (.int 2))))) (sCut (sThaw (sVar 3)) sNoPart (sPart (s1 oNeg (sC (.int 1))))))) (sB (s2 oNotIn (s2 dIx (sThaw (sVar 3)) (s1 oNeg (sC (.int 1)))) (sCallF Φ_splittable [none] (sCons (sThaw (sVar 3)) sNil)))))) (sRet .all (sC (.bl false))) sNx)) sNx)
def t10 : En → Out Fl :=
  (sFor (sRange3 (sCons (s2 oSub (sCall oLen (sCons (sThaw (sVar 3)) sNil)) (sC (.int 1))) (sCons (s1 oNeg (sC (.int 1))) (sCons (s1 oNeg (sC (.int 1))) sNil)))) (gN 10) (sSeq2 (sDrop (sMeth Φ_Cutter_undo 4 [] sNil))
  (sIfS (sB (s2 oNe (sMeth Φ_Cutter_next_part 4 [] sNil) (s2 dIx (sThaw (sVar 3)) (sVar 10)))) (sRet .all (sC (.bl false))) sNx)))
def t11 : En → Out Fl :=
  (sRet .all (sAnd (s2 oEq (sMeth Φ_Cutter_left 4 [] sNil) (sVar 2)) (s2 oEq (sXlen Φ_Cutter_len 4) (sC (.int 0)))))
noncomputable def f_k13_law (K : PySem.W.Frag) : En → Out Fl :=
  (sSeq2 t0 (sSeq2 (t1 K) (sSeq2 t2 (sSeq2 t3 (sSeq2 t4 (sSeq2 t5 (sSeq2 t6 (sSeq2 t7 (sSeq2 t8 (sSeq2 t9 (sSeq2 t10 t11)))))))))))
noncomputable def Φ_k13_law (K : PySem.W.Frag) (ds : List D) : COut := outC [] 1 (f_k13_law K (initE 11 ds))
def r13 : En → Out Fl := (sSeq2 t2 (sSeq2 t3 (sSeq2 t4 (sSeq2 t5 (sSeq2 t6 (sSeq2 t7 (sSeq2 t8 (sSeq2 t9 (sSeq2 t10 t11)))))))))
def q2 : En → Out Fl :=
  (sSet 3 .all (sCallF Φ_greedyF [none] (sCons (sVar 2) sNil)))
def q3 : En → Out Fl :=
  (sMkX Φ_check_fraction 4 (sVar 2))
def q4 : En → Out Fl :=
  (sFor (sSeq .var (sThaw (sVar 3))) (gN 5) (sSeq2 (sIfS (sB (s2 oNe (sMeth Φ_Cutter_next_part 4 [] sNil) (sVar 5))) (sRet .all (sC (.bl false))) sNx)
  (sIfS (sB (s2 oLe (sVar 5) (sC (.int 9999)))) (sSeq2 (sSet 6 .all (sMeth Φ_Cutter_left 4 [] sNil))
  (sSeq2 (sSet 7 .all (sMeth Φ_Cutter_cut 4 [none] (sCons (sVar 5) sNil)))
  (sIfS (sB (s2 oGe (s2 dMul (s2 dIx (sVar 7) (sC (.int 0))) (s2 dIx (sVar 6) (sC (.int 1)))) (s2 dMul (s2 dIx (sVar 6) (sC (.int 0))) (s2 dIx (sVar 7) (sC (.int 1)))))) (sRet .all (sC (.bl false))) sNx))) (sRet .all (sAnd (s2 oIs' (sCallF Φ_is_sum_of [none, none] (sCons (sVar 2) (sCons (sThaw (sVar 3)) sNil))) (sC (.bl true))) (s2 oEq (sXlen Φ_Cutter_len 4) (sTm (sVar 3) (sVar 5))))))))
def q5 : En → Out Fl :=
  (sIfS (sOrT (sB (s2 oNe (sMeth Φ_Cutter_left 4 [] sNil) (sTup (sCons (sC (.int 0)) (sCons (sC (.int 1)) sNil))))) (sOrT (sB (s2 oIsN' (sMeth Φ_Cutter_next_part 4 [] sNil) (sC .non))) (sOrT (sB (s2 oNe (sMeth Φ_Cutter_parts 4 [] sNil) (sCall oListOf (sCons (sThaw (sVar 3)) sNil)))) (sB (s2 oNe (sXstr Φ_Cutter_str 4) (sCallF Φ_format_sum [none] (sCons (sThaw (sVar 3)) sNil))))))) (sRet .all (sC (.bl false))) sNx)
def q6 : En → Out Fl :=
  (sIfS (sOrT (sB (s2 oNe (sCallF Φ_parse_sum [none] (sCons (sXstr Φ_Cutter_str 4) sNil)) (sThaw (sVar 3)))) (sB (s2 oNe (sCallF Φ_total [none] (sCons (sThaw (sVar 3)) sNil)) (sVar 2)))) (sRet .all (sC (.bl false))) sNx)
def q7 : En → Out Fl :=
  (sSet 8 .all (sCallF Ψ_first_sum [none] (sCons (sVar 2) sNil)))
def q8 : En → Out Fl :=
  (sIfS (sOrT (sB (s2 oGt (sCall oLen (sCons (sVar 8) sNil)) (sCall oLen (sCons (sThaw (sVar 3)) sNil)))) (sB (s2 oIsN' (sCallF Φ_is_sum_of [none, none] (sCons (sVar 2) (sCons (sVar 8) sNil))) (sC (.bl true))))) (sRet .all (sC (.bl false))) sNx)
def q9 : En → Out Fl :=
  (sIfS (sB (s2 oLe (s2 dIx (sThaw (sVar 3)) (s1 oNeg (sC (.int 1)))) (sC (.int 99)))) (sSeq2 (sSet 9 .all (sCallF Φ_split [none, none] (sCons (sThaw (sVar 3)) (sCons (s2 dIx (sThaw (sVar 3)) (s1 oNeg (sC (.int 1)))) sNil))))
  (sIfS (sOrT (sB (s2 oNe (sCallF Φ_total [none] (sCons (sVar 9) sNil)) (sVar 2))) (sOrT (sB (s2 oNe (sCut (sVar 9) sNoPart (sPart (s1 oNeg (sC (.int 2))))) (sCut (sThaw (sVar 3)) sNoPart (sPart (s1 oNeg (sC (.int 1))))))) (sB (s2 oNotIn (s2 dIx (sThaw (sVar 3)) (s1 oNeg (sC (.int 1)))) (sCallF Φ_splittable [none] (sCons (sThaw (sVar 3)) sNil)))))) (sRet .all (sC (.bl false))) sNx)) sNx)
def q10 : En → Out Fl :=
  (sFor (sRange3 (sCons (s2 oSub (sCall oLen (sCons (sThaw (sVar 3)) sNil)) (sC (.int 1))) (sCons (s1 oNeg (sC (.int 1))) (sCons (s1 oNeg (sC (.int 1))) sNil)))) (gN 10) (sSeq2 (sDrop (sMeth Φ_Cutter_undo 4 [] sNil))
  (sIfS (sB (s2 oNe (sMeth Φ_Cutter_next_part 4 [] sNil) (s2 dIx (sThaw (sVar 3)) (sVar 10)))) (sRet .all (sC (.bl false))) sNx)))
def q11 : En → Out Fl :=
  (sRet .all (sAnd (s2 oEq (sMeth Φ_Cutter_left 4 [] sNil) (sVar 2)) (s2 oEq (sXlen Φ_Cutter_len 4) (sC (.int 0)))))
theorem tq2 : t2 = q2 := rfl
theorem tq3 : t3 = q3 := rfl
theorem tq4 : t4 = q4 := rfl
theorem tq5 : t5 = q5 := rfl
theorem tq6 : t6 = q6 := rfl
theorem tq7 : t7 = q7 := by
  unfold t7 q7
  simp only [ΦΨ_first_sum]
theorem tq8 : t8 = q8 := rfl
theorem tq9 : t9 = q9 := rfl
theorem tq10 : t10 = q10 := rfl
theorem tq11 : t11 = q11 := rfl
def q13 : En → Out Fl := (sSeq2 q2 (sSeq2 q3 (sSeq2 q4 (sSeq2 q5 (sSeq2 q6 (sSeq2 q7 (sSeq2 q8 (sSeq2 q9 (sSeq2 q10 q11)))))))))
theorem r13_eq : r13 = q13 := by
  unfold r13 q13
  rw [tq2, tq3, tq4, tq5, tq6, tq7, tq8, tq9, tq10, tq11]
def chk13 (d0 d1 : Option D) (p : Int × Int) : Bool := match q13 [d0, d1, some (.tup [.int p.1, .int p.2]), none, none, none, none, none, none, none, none] with
  | .ok (.ret (.bl true)) _ => true
  | _ => false
theorem chk13_0 (d0 d1 : Option D) : fr0.all (chk13 d0 d1) = true := by kernel_rfl
theorem chk13_1 (d0 d1 : Option D) : fr1.all (chk13 d0 d1) = true := by kernel_rfl
theorem chk13_2 (d0 d1 : Option D) : fr2.all (chk13 d0 d1) = true := by kernel_rfl
theorem chk13_3 (d0 d1 : Option D) : fr3.all (chk13 d0 d1) = true := by kernel_rfl
theorem chk13_4 (d0 d1 : Option D) : fr4.all (chk13 d0 d1) = true := by kernel_rfl
theorem chk13_5 (d0 d1 : Option D) : fr5.all (chk13 d0 d1) = true := by kernel_rfl
theorem chk13_6 (d0 d1 : Option D) : fr6.all (chk13 d0 d1) = true := by kernel_rfl
theorem chk13_7 (d0 d1 : Option D) : fr7.all (chk13 d0 d1) = true := by kernel_rfl
theorem chk13_8 (d0 d1 : Option D) : fr8.all (chk13 d0 d1) = true := by kernel_rfl
theorem chk13_9 (d0 d1 : Option D) : fr9.all (chk13 d0 d1) = true := by kernel_rfl
theorem chk13_10 (d0 d1 : Option D) : fr10.all (chk13 d0 d1) = true := by kernel_rfl
theorem chk13_11 (d0 d1 : Option D) : fr11.all (chk13 d0 d1) = true := by kernel_rfl
theorem chk13_12 (d0 d1 : Option D) : fr12.all (chk13 d0 d1) = true := by kernel_rfl
theorem chk13_13 (d0 d1 : Option D) : fr13.all (chk13 d0 d1) = true := by kernel_rfl
theorem chk13_all (d0 d1 : Option D) {a b : Int} (h : isFr a b = true) : chk13 d0 d1 (a, b) = true := by
  have hm := mem_frs h
  unfold frs at hm
  refine List.all_eq_true.mp ?_ (a, b) hm
  simp only [List.all_append, chk13_0, chk13_1, chk13_2, chk13_3, chk13_4, chk13_5, chk13_6, chk13_7, chk13_8, chk13_9, chk13_10, chk13_11, chk13_12, chk13_13, Bool.and_self]
theorem seq_go {f g : En → Out Fl} {e e1 : En} (h : f e = .ok .nx e1) : sSeq2 f g e = g e1 := by simp only [sSeq2, h]
theorem ch13 (K : PySem.W.Frag) : f_k13_law K = sSeq2 t0 (sSeq2 (t1 K) r13) := rfl
theorem Φ_k13_law_ok (K : PySem.W.Frag) (ns : List Int) (h : Bits ns) : ∃ xs, Φ_k13_law K [.scr K ns] = .ok (.bl true) xs := by
  obtain ⟨a, b, hf, d1⟩ := share_ok K ns h 0 (by decide)
  have ck := chk13_all (some (.scr K ns)) (some (.town 2)) hf
  unfold chk13 at ck
  rw [← r13_eq] at ck
  have hi : initE 11 [D.scr K ns] = [some (.scr K ns), none, none, none, none, none, none, none, none, none, none] := rfl
  have st0 : t0 [some (.scr K ns), none, none, none, none, none, none, none, none, none, none] = .ok .nx [some (.scr K ns), some (.town 0), none, none, none, none, none, none, none, none, none] := by simp [t0]
  have st1 : t1 K [some (.scr K ns), some (.town 0), none, none, none, none, none, none, none, none, none] = .ok .nx [some (.scr K ns), some (.town 2), some (.tup [.int a, .int b]), none, none, none, none, none, none, none, none] := by simp [t1, d1]
  have ch := ch13 K
  obtain ⟨R, hR⟩ : ∃ R, R = r13 := ⟨_, rfl⟩
  rw [← hR] at ck ch
  refine ⟨[], ?_⟩
  unfold Φ_k13_law
  rw [ch, hi]
  cases q : R [some (.scr K ns), some (.town 2), some (.tup [.int a, .int b]), none, none, none, none, none, none, none, none] with
  | ok fl e =>
    rw [q] at ck
    cases fl with
    | ret d =>
      cases d with
      | bl t =>
        cases t with
        | true =>
          rw [seq_go st0, seq_go st1, q]
          rfl
        | false => cases ck
      | _ => cases ck
    | _ => cases ck
  | raise c e => rw [q] at ck; cases ck
  | stuck => rw [q] at ck; cases ck
end Ev

set_option Elab.async false
set_option linter.all false
set_option maxRecDepth 100000
set_option maxHeartbeats 4000000
namespace Ev
open PySem L2 PySem.Calls
def top (i : Nat) : Stmt := PySem.Challenge.pw_oneparts_k13_whole_from_text_to_cutter.main.body.getD i (.Pass ⟨0, 0, 0, 0⟩)
structure Txt (K : PySem.W.Frag) (mg : Str → Option Value) (exc : Nat → Addr) : Prop where
  triv : True
  b_all : mg "all" = none
  b_bool : mg "bool" = none
  b_int : mg "int" = none
  b_isinstance : mg "isinstance" = none
  b_len : mg "len" = none
  b_list : mg "list" = none
  b_max : mg "max" = none
  b_min : mg "min" = none
  b_range : mg "range" = none
  b_sorted : mg "sorted" = none
  b_str : mg "str" = none
  b_tuple : mg "tuple" = none
  b_zip : mg "zip" = none
  g_DIGITS : ∃ t, mg "DIGITS" = some (.str "0123456789" t)
  g_MOST : ∃ t, mg "MOST" = some (.int 30 t)
  e_CannotSplit : ExcF K mg "CannotSplit" (exc 4)
  e_InvalidFraction : ExcF K mg "InvalidFraction" (exc 0)
  e_InvalidNumber : ExcF K mg "InvalidNumber" (exc 2)
  e_InvalidSum : ExcF K mg "InvalidSum" (exc 1)
  e_NotThere : ExcF K mg "NotThere" (exc 3)
  e_NothingToUndo : ExcF K mg "NothingToUndo" (exc 7)
  e_ParseError : ExcF K mg "ParseError" (exc 8)
  e_TooGreat : ExcF K mg "TooGreat" (exc 5)
  e_Used : ExcF K mg "Used" (exc 6)
section
variable {P : Program} {w : World} {K : PySem.W.Frag} {mg : Str → Option Value} {base : Heap} {C : Addr} {exc : Nat → Addr} {Cp : Addr}
abbrev s_Cutter_parts : Stmt := inClass (top 34) 3
theorem sc_Cutter_parts : FnScope ["self"] ["self"] (defScope s_Cutter_parts) := ⟨rfl, rfl, rfl, by decide +kernel, rfl, by decide +kernel, by decide +kernel⟩
theorem ok_Cutter_parts {fa : Addr} {fd : FuncData} (T : Txt K mg exc) (CC : CutC K C) (CI : CutI K C) (mgC : mg "Cutter" = some (.ref C)) (Fn : Fun K "parts" "Cutter.parts" s_Cutter_parts fa fd) (Me : Meth K C "parts" fa) (hb : Binds K fd ["self"] []) :
    MtD P w K mg base C exc "parts" 1 1 [0] Φ_Cutter_parts :=
  ⟨fa, fd, _, fn_ok (kk := 0) (M := []) (Xl := []) (Pn := []) Fn sc_Cutter_parts rfl (by decide) (by decide) (by decide) (fun cdv A outer s H E hr => by
    have hu := hr.units
    have hu5 := hr.units5
    exact (gss_one (gs_ret (ge_callTyY call_list_of h_listI (gy_gone 0 CC) T.b_list (by decide +kernel))))), Me, hb⟩

abbrev s_Cutter_len : Stmt := inClass (top 34) 8
theorem sc_Cutter_len : FnScope ["self"] ["self"] (defScope s_Cutter_len) := ⟨rfl, rfl, rfl, by decide +kernel, rfl, by decide +kernel, by decide +kernel⟩
theorem ok_Cutter_len {fa : Addr} {fd : FuncData} (T : Txt K mg exc) (CC : CutC K C) (CI : CutI K C) (mgC : mg "Cutter" = some (.ref C)) (Fn : Fun K "__len__" "Cutter.__len__" s_Cutter_len fa fd) (Me : Meth K C "__len__" fa) (hb : Binds K fd ["self"] []) :
    MtD P w K mg base C exc "__len__" 1 1 [0] Φ_Cutter_len :=
  ⟨fa, fd, _, fn_ok (kk := 0) (M := []) (Xl := []) (Pn := []) Fn sc_Cutter_len rfl (by decide) (by decide) (by decide) (fun cdv A outer s H E hr => by
    have hu := hr.units
    have hu5 := hr.units5
    exact (gss_one (gs_ret (ge_callBY call_len h_len (gy_gone 0 CC) T.b_len (by decide +kernel))))), Me, hb⟩

abbrev s_is_integer : Stmt := top 14
theorem sc_is_integer : FnScope ["value", "low", "high"] ["value", "low", "high"] (defScope s_is_integer) := ⟨rfl, rfl, rfl, by decide +kernel, rfl, by decide +kernel, by decide +kernel⟩
theorem ok_is_integer {fa : Addr} {fd : FuncData} (T : Txt K mg exc) (CC : CutC K C) (CI : CutI K C) (mgC : mg "Cutter" = some (.ref C)) (Fn : Fun K "is_integer" "is_integer" s_is_integer fa fd) (hmg : mg "is_integer" = some (.ref fa)) (hb : Binds K fd ["value", "low", "high"] []) :
    FnD P w K mg base C exc "is_integer" 1 3 [] Φ_is_integer :=
  fn_def (M := []) (Xl := []) (Pn := []) Fn sc_is_integer hmg hb rfl (by decide) (by decide) (by decide) fun cdv A outer s H E hr => by
    have hu := hr.units
    have hu5 := hr.units5
    exact (gss_one (gs_ret (ge_and (ge_isi .int (ge_var 0) T.b_isinstance T.b_int) (ge_and (ge_not (ge_isi .bool (ge_var 0) T.b_isinstance T.b_bool)) (ge_one (ge_chain c_le c_le (ge_var 1) (ge_var 0) (ge_var 2)))))))

abbrev s_divisor_of : Stmt := top 15
theorem sc_divisor_of : FnScope ["one", "other"] ["one", "other"] (defScope s_divisor_of) := ⟨rfl, rfl, rfl, by decide +kernel, rfl, by decide +kernel, by decide +kernel⟩
theorem ok_divisor_of {fa : Addr} {fd : FuncData} (T : Txt K mg exc) (CC : CutC K C) (CI : CutI K C) (mgC : mg "Cutter" = some (.ref C)) (Fn : Fun K "divisor_of" "divisor_of" s_divisor_of fa fd) (hmg : mg "divisor_of" = some (.ref fa)) (hb : Binds K fd ["one", "other"] []) :
    FnD P w K mg base C exc "divisor_of" 1 2 [] Φ_divisor_of :=
  fn_def (M := []) (Xl := []) (Pn := []) Fn sc_divisor_of hmg hb rfl (by decide) (by decide) (by decide) fun cdv A outer s H E hr => by
    have hu := hr.units
    have hu5 := hr.units5
    exact (gss_cons (gs_while fuelW (passes_of rfl) (gt_cmp c_gt (ge_var 1) ge_int) (gss_one (gs_par 0 1 rfl sc_divisor_of.nd (ge_var 1) (ge_mod (ge_var 0) (ge_var 1)))))
  (gss_one (gs_ret (ge_var 0))))

abbrev s_is_sum : Stmt := top 18
theorem sc_is_sum : FnScope ["value", "part", "one", "other"] ["value"] (defScope s_is_sum) := ⟨rfl, rfl, rfl, by decide +kernel, rfl, by decide +kernel, by decide +kernel⟩
theorem ok_is_sum {fa : Addr} {fd : FuncData} (T : Txt K mg exc) (CC : CutC K C) (CI : CutI K C) (mgC : mg "Cutter" = some (.ref C)) (Fn : Fun K "is_sum" "is_sum" s_is_sum fa fd) (hmg : mg "is_sum" = some (.ref fa)) (hb : Binds K fd ["value"] []) :
    FnD P w K mg base C exc "is_sum" 1 1 [] Φ_is_sum :=
  fn_def (M := []) (Xl := []) (Pn := []) Fn sc_is_sum hmg hb rfl (by decide) (by decide) (by decide) fun cdv A outer s H E hr => by
    have hu := hr.units
    have hu5 := hr.units5
    exact (gss_cons (gs_if (gt_not (gt_val (ge_isi .tuple (ge_var 0) T.b_isinstance T.b_tuple))) (gss_one (gs_ret ge_bl)) gss_nil)
  (gss_cons (gs_if (gt_not (gt_val (ge_callB (cr_all rfl) h_all (ga_cons (ge_lc rfl sc_is_sum.nd (gi_seq (ge_var 0)) (blkOk_by (own := [("part", 1)]) (by first | (show blkC ["value", "part", "one", "other"] (defScope s_is_sum) _ _ = true; decide +kernel) | kernel_rfl)) (fun _ _ _ _ _ => (gg_name 1 sc_is_sum.nd)) (fun _ _ _ _ _ => gts_nil) (fun _ _ _ _ _ => (ge_and (ge_isi .int (ge_var 1) T.b_isinstance T.b_int) (ge_and (ge_not (ge_isi .bool (ge_var 1) T.b_isinstance T.b_bool)) (ge_one (ge_cmp c_gt (ge_var 1) ge_int)))))) ga_nil) T.b_all (by decide +kernel)))) (gss_one (gs_ret ge_bl)) gss_nil)
  (gss_one (gs_ret (ge_callB (cr_all rfl) h_all (ga_cons (ge_lc rfl sc_is_sum.nd (gi_zip (ge_var 0) (ge_slice (ge_var 0) (go_some ge_int) go_none) T.b_zip) (blkOk_by (own := [("one", 2), ("other", 3)]) (by first | (show blkC ["value", "part", "one", "other"] (defScope s_is_sum) _ _ = true; decide +kernel) | kernel_rfl)) (fun _ _ _ _ _ => (gg_tup rfl (ggs_cons (gg_name 2 sc_is_sum.nd) (ggs_cons (gg_name 3 sc_is_sum.nd) ggs_nil)))) (fun _ _ _ _ _ => gts_nil) (fun _ _ _ _ _ => (ge_cmp c_lt (ge_var 2) (ge_var 3)))) ga_nil) T.b_all (by decide +kernel))))))

abbrev s_text_of : Stmt := top 27
theorem sc_text_of : FnScope ["value", "part"] ["value"] (defScope s_text_of) := ⟨rfl, rfl, rfl, by decide +kernel, rfl, by decide +kernel, by decide +kernel⟩
theorem ok_text_of {fa : Addr} {fd : FuncData} (T : Txt K mg exc) (CC : CutC K C) (CI : CutI K C) (mgC : mg "Cutter" = some (.ref C)) (Fn : Fun K "text_of" "text_of" s_text_of fa fd) (hmg : mg "text_of" = some (.ref fa)) (hb : Binds K fd ["value"] []) :
    FnD P w K mg base C exc "text_of" 1 1 [] Φ_text_of :=
  fn_def (M := []) (Xl := []) (Pn := []) Fn sc_text_of hmg hb rfl (by decide) (by decide) (by decide) fun cdv A outer s H E hr => by
    have hu := hr.units
    have hu5 := hr.units5
    exact (gss_one (gs_ret (ge_ifA (gt_cmp (c_ne hu) (ge_var 0) (ge_tup ga_nil)) (ge_join ge_str (ge_lc rfl sc_text_of.nd (gi_seq (ge_var 0)) (blkOk_by (own := [("part", 1)]) (by first | (show blkC ["value", "part"] (defScope s_text_of) _ _ = true; decide +kernel) | kernel_rfl)) (fun _ _ _ _ _ => (gg_name 1 sc_text_of.nd)) (fun _ _ _ _ _ => gts_nil) (fun _ _ _ _ _ => (ge_add ge_str (ge_callTy call_str_int h_str (ga_cons (ge_var 1) ga_nil) T.b_str (by decide +kernel)))))) ge_str)))

abbrev s_greatest_in : Stmt := top 31
theorem sc_greatest_in : FnScope ["rest"] ["rest"] (defScope s_greatest_in) := ⟨rfl, rfl, rfl, by decide +kernel, rfl, by decide +kernel, by decide +kernel⟩
theorem ok_greatest_in {fa : Addr} {fd : FuncData} (T : Txt K mg exc) (CC : CutC K C) (CI : CutI K C) (mgC : mg "Cutter" = some (.ref C)) (Fn : Fun K "greatest_in" "greatest_in" s_greatest_in fa fd) (hmg : mg "greatest_in" = some (.ref fa)) (hb : Binds K fd ["rest"] []) :
    FnD P w K mg base C exc "greatest_in" 1 1 [] Φ_greatest_in :=
  fn_def (M := []) (Xl := []) (Pn := []) Fn sc_greatest_in hmg hb rfl (by decide) (by decide) (by decide) fun cdv A outer s H E hr => by
    have hu := hr.units
    have hu5 := hr.units5
    exact (gss_one (gs_ret (ge_div (ge_sub (ge_add (ge_ix (ge_var 0) ge_int) (ge_ix (ge_var 0) ge_int)) ge_int) (ge_ix (ge_var 0) ge_int))))

abbrev s_pair_list : Stmt := top 36
theorem sc_pair_list : FnScope ["rest", "low", "a", "b", "found", "d", "one", "other"] ["rest", "low"] (defScope s_pair_list) := ⟨rfl, rfl, rfl, by decide +kernel, rfl, by decide +kernel, by decide +kernel⟩
theorem ok_pair_list {fa : Addr} {fd : FuncData} (T : Txt K mg exc) (CC : CutC K C) (CI : CutI K C) (mgC : mg "Cutter" = some (.ref C)) (Fn : Fun K "pair_list" "pair_list" s_pair_list fa fd) (hmg : mg "pair_list" = some (.ref fa)) (hb : Binds K fd ["rest", "low"] []) :
    FnD P w K mg base C exc "pair_list" 1 2 [] Φ_pair_list :=
  fn_def (M := [4]) (Xl := []) (Pn := []) Fn sc_pair_list hmg hb rfl (by decide) (by decide) (by decide) fun cdv A outer s H E hr => by
    have hu := hr.units
    have hu5 := hr.units5
    exact (gss_cons (gs_asg (ge_var 0) (gg_tup rfl (ggs_cons (gg_name 2 sc_pair_list.nd) (ggs_cons (gg_name 3 sc_pair_list.nd) ggs_nil))))
  (gss_cons (gs_setM 4 sc_pair_list.nd (gn_lst ga_nil))
  (gss_cons (gs_for (passes_of rfl) rfl (gi_range2 (ga_cons ge_int (ga_cons (ge_var 3) ga_nil)) T.b_range) (gg_name 5 sc_pair_list.nd) (gss_one (gs_if (gw_and (gt_cmp (c_eq hu) (ge_mod (ge_mul (ge_var 3) (ge_var 3)) (ge_var 5)) ge_int) (gw_and1 (gt_cmp (c_eq hu) (ge_mod (ge_add (ge_var 3) (ge_var 5)) (ge_var 2)) ge_int))).gt (gss_cons (gs_par 6 7 rfl sc_pair_list.nd (ge_div (ge_add (ge_var 3) (ge_var 5)) (ge_var 2)) (ge_div (ge_add (ge_var 3) (ge_div (ge_mul (ge_var 3) (ge_var 3)) (ge_var 5))) (ge_var 2)))
  (gss_one (gs_if (gt_cmp c_gt (ge_var 6) (ge_var 1)) (gss_one (gs_append 4 (ge_tup (ga_cons (ge_var 6) (ga_cons (ge_var 7) ga_nil))))) gss_nil))) gss_nil)))
  (gss_one (gs_ret (ge_callB EvS.cr_sortedG h_sorted (ga_cons (ge_varM 4) ga_nil) T.b_sorted (by decide +kernel)))))))

abbrev s_can_split : Stmt := top 42
theorem sc_can_split : FnScope ["value", "part"] ["value", "part"] (defScope s_can_split) := ⟨rfl, rfl, rfl, by decide +kernel, rfl, by decide +kernel, by decide +kernel⟩
theorem ok_can_split {fa : Addr} {fd : FuncData} (T : Txt K mg exc) (CC : CutC K C) (CI : CutI K C) (mgC : mg "Cutter" = some (.ref C)) (Fn : Fun K "can_split" "can_split" s_can_split fa fd) (hmg : mg "can_split" = some (.ref fa)) (hb : Binds K fd ["value", "part"] []) :
    FnD P w K mg base C exc "can_split" 1 2 [] Φ_can_split :=
  fn_def (M := []) (Xl := []) (Pn := []) Fn sc_can_split hmg hb rfl (by decide) (by decide) (by decide) fun cdv A outer s H E hr => by
    have hu := hr.units
    have hu5 := hr.units5
    exact (gss_one (gs_ret (ge_and (ge_cmp (c_notIn hu5) (ge_add (ge_var 1) ge_int) (ge_var 0)) (ge_one (ge_cmp (c_notIn hu5) (ge_mul (ge_var 1) (ge_add (ge_var 1) ge_int)) (ge_var 0))))))

abbrev s_law_cell_at : Stmt := top 46
theorem sc_law_cell_at : FnScope ["_law_script", "_law_k", "_law_spare", "_law_again"] ["_law_script", "_law_k"] (defScope s_law_cell_at) := ⟨rfl, rfl, rfl, by decide +kernel, rfl, by decide +kernel, by decide +kernel⟩
theorem ok_law_cell_at {fa : Addr} {fd : FuncData} (T : Txt K mg exc) (CC : CutC K C) (CI : CutI K C) (mgC : mg "Cutter" = some (.ref C)) (Fn : Fun K "_law_cell_at" "_law_cell_at" s_law_cell_at fa fd) (hmg : mg "_law_cell_at" = some (.ref fa)) (hb : Binds K fd ["_law_script", "_law_k"] []) :
    FnD P w K mg base C exc "_law_cell_at" 1 2 [] (Φ_law_cell_at K) :=
  fn_def (M := []) (Xl := []) (Pn := []) Fn sc_law_cell_at hmg hb rfl (by decide) (by decide) (by decide) fun cdv A outer s H E hr => by
    have hu := hr.units
    have hu5 := hr.units5
    exact (gss_cons (gs_if (gt_cmp c_lt (ge_var 1) (ge_callB call_len h_scrLen (ga_cons (ge_var 0) ga_nil) T.b_len (by decide +kernel))) (gss_one (gs_ret (ge_scrIx (ge_var 0) (ge_var 1)))) gss_nil)
  (gss_cons (gs_if (gt_cmp (c_scrEq hu) (ge_var 0) (ge_lst ga_nil)) (gss_one (gs_ret ge_int)) gss_nil)
  (gss_cons (gs_set 2 sc_law_cell_at.nd (ge_scrIx (ge_var 0) (ge_mod (ge_var 1) (ge_callB call_len h_scrLen (ga_cons (ge_var 0) ga_nil) T.b_len (by decide +kernel)))))
  (gss_cons (gs_for (passes_of rfl) rfl (gi_range1 (ga_cons (ge_callB (call_min2 rfl) h_min2 (ga_cons (ge_div (ge_var 1) (ge_callB call_len h_scrLen (ga_cons (ge_var 0) ga_nil) T.b_len (by decide +kernel))) (ga_cons ge_int ga_nil)) T.b_min (by decide +kernel)) ga_nil) T.b_range) (gg_name 3 sc_law_cell_at.nd) (gss_one (gs_set 2 sc_law_cell_at.nd (ge_div (ge_var 2) ge_int))))
  (gss_one (gs_ret (ge_add (ge_add (ge_mul (ge_scrIx (ge_var 0) (ge_mod (ge_var 1) (ge_callB call_len h_scrLen (ga_cons (ge_var 0) ga_nil) T.b_len (by decide +kernel)))) ge_int) (ge_var 1)) (ge_mul (ge_var 2) ge_int))))))))

abbrev s_law_shared : Stmt := top 50
theorem sc_law_shared : FnScope ["_law_one", "_law_other"] ["_law_one", "_law_other"] (defScope s_law_shared) := ⟨rfl, rfl, rfl, by decide +kernel, rfl, by decide +kernel, by decide +kernel⟩
theorem ok_law_shared {fa : Addr} {fd : FuncData} (T : Txt K mg exc) (CC : CutC K C) (CI : CutI K C) (mgC : mg "Cutter" = some (.ref C)) (Fn : Fun K "_law_shared" "_law_shared" s_law_shared fa fd) (hmg : mg "_law_shared" = some (.ref fa)) (hb : Binds K fd ["_law_one", "_law_other"] []) :
    FnD P w K mg base C exc "_law_shared" 1 2 [] Φ_law_shared :=
  fn_def (M := []) (Xl := []) (Pn := []) Fn sc_law_shared hmg hb rfl (by decide) (by decide) (by decide) fun cdv A outer s H E hr => by
    have hu := hr.units
    have hu5 := hr.units5
    exact (gss_cons (gs_while fuelW (passes_of rfl) (gt_cmp c_gt (ge_var 1) ge_int) (gss_one (gs_par 0 1 rfl sc_law_shared.nd (ge_var 1) (ge_mod (ge_var 0) (ge_var 1)))))
  (gss_one (gs_ret (ge_var 0))))

abbrev s_Cutter_str : Stmt := inClass (top 34) 9
theorem sc_Cutter_str : FnScope ["self"] ["self"] (defScope s_Cutter_str) := ⟨rfl, rfl, rfl, by decide +kernel, rfl, by decide +kernel, by decide +kernel⟩
theorem ok_Cutter_str {fa : Addr} {fd : FuncData} (T : Txt K mg exc) (CC : CutC K C) (CI : CutI K C) (mgC : mg "Cutter" = some (.ref C)) (Fn : Fun K "__str__" "Cutter.__str__" s_Cutter_str fa fd) (Me : Meth K C "__str__" fa) (hb : Binds K fd ["self"] []) (D_text_of : FnD P w K mg base C exc "text_of" 1 1 [] Φ_text_of) :
    MtD P w K mg base C exc "__str__" 2 1 [0] Φ_Cutter_str :=
  ⟨fa, fd, _, fn_ok (kk := 1) (M := []) (Xl := []) (Pn := []) Fn sc_Cutter_str rfl (by decide) (by decide) (by decide) (fun cdv A outer s H E hr => by
    have hu := hr.units
    have hu5 := hr.units5
    exact (gss_one (gs_ret (ge_callTy SkE.call_str_str h_strS (ga_cons (ge_ifA (gt_neNil hu (gy_gone 0 CC)) (ge_call D_text_of (hr.mono (by decide)) (takes_of rfl rfl rfl rfl) (gc_cons (ge_callBY EvS.cr_sortedG h_sorted (gy_gone 0 CC) T.b_sorted (by decide +kernel)) gc_nil)) ge_str) ga_nil) T.b_str (by decide +kernel))))), Me, hb⟩

abbrev s_is_fraction : Stmt := top 16
theorem sc_is_fraction : FnScope ["value"] ["value"] (defScope s_is_fraction) := ⟨rfl, rfl, rfl, by decide +kernel, rfl, by decide +kernel, by decide +kernel⟩
theorem ok_is_fraction {fa : Addr} {fd : FuncData} (T : Txt K mg exc) (CC : CutC K C) (CI : CutI K C) (mgC : mg "Cutter" = some (.ref C)) (Fn : Fun K "is_fraction" "is_fraction" s_is_fraction fa fd) (hmg : mg "is_fraction" = some (.ref fa)) (hb : Binds K fd ["value"] []) (D_divisor_of : FnD P w K mg base C exc "divisor_of" 1 2 [] Φ_divisor_of) (D_is_integer : FnD P w K mg base C exc "is_integer" 1 3 [] Φ_is_integer) :
    FnD P w K mg base C exc "is_fraction" 2 1 [] Φ_is_fraction :=
  fn_def (M := []) (Xl := []) (Pn := []) Fn sc_is_fraction hmg hb rfl (by decide) (by decide) (by decide) fun cdv A outer s H E hr => by
    have hu := hr.units
    have hu5 := hr.units5
    exact (gss_cons (gs_if (gw_or (gt_not (gt_val (ge_isi .tuple (ge_var 0) T.b_isinstance T.b_tuple))) (gw_or (gt_cmp (c_ne hu) (ge_callB call_len h_len (ga_cons (ge_var 0) ga_nil) T.b_len (by decide +kernel)) ge_int) (gw_or1 (gt_not (gt_val (ge_call D_is_integer (hr.mono (by decide)) (takes_of rfl rfl rfl rfl) (gc_cons (ge_ix (ge_var 0) ge_int) (gc_cons ge_int (gc_cons (ge_globI T.g_MOST) gc_nil))))))))).gt (gss_one (gs_ret ge_bl)) gss_nil)
  (gss_one (gs_ret (ge_and (ge_call D_is_integer (hr.mono (by decide)) (takes_of rfl rfl rfl rfl) (gc_cons (ge_ix (ge_var 0) ge_int) (gc_cons ge_int (gc_cons (ge_sub (ge_ix (ge_var 0) ge_int) ge_int) gc_nil)))) (ge_one (ge_cmp (c_eq hu) (ge_call D_divisor_of (hr.mono (by decide)) (takes_of rfl rfl rfl rfl) (gc_cons (ge_ix (ge_var 0) ge_int) (gc_cons (ge_ix (ge_var 0) ge_int) gc_nil))) ge_int))))))

abbrev s_check_sum : Stmt := top 19
theorem sc_check_sum : FnScope ["value", "count", "most", "part"] ["value", "count", "most"] (defScope s_check_sum) := ⟨rfl, rfl, rfl, by decide +kernel, rfl, by decide +kernel, by decide +kernel⟩
theorem ok_check_sum {fa : Addr} {fd : FuncData} (T : Txt K mg exc) (CC : CutC K C) (CI : CutI K C) (mgC : mg "Cutter" = some (.ref C)) (Fn : Fun K "check_sum" "check_sum" s_check_sum fa fd) (hmg : mg "check_sum" = some (.ref fa)) (hb : Binds K fd ["value", "count", "most"] []) (D_is_sum : FnD P w K mg base C exc "is_sum" 1 1 [] Φ_is_sum) :
    FnD P w K mg base C exc "check_sum" 2 3 [] Φ_check_sum :=
  fn_def (M := []) (Xl := []) (Pn := []) Fn sc_check_sum hmg hb rfl (by decide) (by decide) (by decide) fun cdv A outer s H E hr => by
    have hu := hr.units
    have hu5 := hr.units5
    exact (gss_one (gs_if (gw_or (gt_not (gt_val (ge_call D_is_sum (hr.mono (by decide)) (takes_of rfl rfl rfl rfl) (gc_cons (ge_var 0) gc_nil)))) (gw_or (gt_cmp c_gt (ge_callB call_len h_len (ga_cons (ge_var 0) ga_nil) T.b_len (by decide +kernel)) (ge_var 1)) (gw_or1 (gt_not (gt_val (ge_callB (cr_all rfl) h_all (ga_cons (ge_lc rfl sc_check_sum.nd (gi_seq (ge_var 0)) (blkOk_by (own := [("part", 3)]) (by first | (show blkC ["value", "count", "most", "part"] (defScope s_check_sum) _ _ = true; decide +kernel) | kernel_rfl)) (fun _ _ _ _ _ => (gg_name 3 sc_check_sum.nd)) (fun _ _ _ _ _ => gts_nil) (fun _ _ _ _ _ => (ge_cmp c_le (ge_var 3) (ge_var 2)))) ga_nil) T.b_all (by decide +kernel))))))).gt (gss_one (gs_raise (cn := 1) rfl (takes_of rfl rfl rfl rfl) (pmk_own PySem.F.excBase_ValueError T.e_InvalidSum.xP T.e_InvalidSum.gP T.e_InvalidSum.kP (raises_own T.e_InvalidSum.bP T.e_InvalidSum.tP) rfl))) gss_nil))

abbrev s_lowest : Stmt := top 20
theorem sc_lowest : FnScope ["top", "bottom", "shared"] ["top", "bottom"] (defScope s_lowest) := ⟨rfl, rfl, rfl, by decide +kernel, rfl, by decide +kernel, by decide +kernel⟩
theorem ok_lowest {fa : Addr} {fd : FuncData} (T : Txt K mg exc) (CC : CutC K C) (CI : CutI K C) (mgC : mg "Cutter" = some (.ref C)) (Fn : Fun K "lowest" "lowest" s_lowest fa fd) (hmg : mg "lowest" = some (.ref fa)) (hb : Binds K fd ["top", "bottom"] []) (D_divisor_of : FnD P w K mg base C exc "divisor_of" 1 2 [] Φ_divisor_of) :
    FnD P w K mg base C exc "lowest" 2 2 [] Φ_lowest :=
  fn_def (M := []) (Xl := []) (Pn := []) Fn sc_lowest hmg hb rfl (by decide) (by decide) (by decide) fun cdv A outer s H E hr => by
    have hu := hr.units
    have hu5 := hr.units5
    exact (gss_cons (gs_set 2 sc_lowest.nd (ge_call D_divisor_of (hr.mono (by decide)) (takes_of rfl rfl rfl rfl) (gc_cons (ge_var 1) (gc_cons (ge_var 0) gc_nil))))
  (gss_one (gs_ret (ge_tup (ga_cons (ge_div (ge_var 0) (ge_var 2)) (ga_cons (ge_div (ge_var 1) (ge_var 2)) ga_nil))))))

abbrev s_parse_sum : Stmt := top 29
theorem sc_parse_sum : FnScope ["text", "words", "word", "value", "sign"] ["text"] (defScope s_parse_sum) := ⟨rfl, rfl, rfl, by decide +kernel, rfl, by decide +kernel, by decide +kernel⟩
theorem ok_parse_sum {fa : Addr} {fd : FuncData} (T : Txt K mg exc) (CC : CutC K C) (CI : CutI K C) (mgC : mg "Cutter" = some (.ref C)) (Fn : Fun K "parse_sum" "parse_sum" s_parse_sum fa fd) (hmg : mg "parse_sum" = some (.ref fa)) (hb : Binds K fd ["text"] []) (D_is_sum : FnD P w K mg base C exc "is_sum" 1 1 [] Φ_is_sum) (D_text_of : FnD P w K mg base C exc "text_of" 1 1 [] Φ_text_of) :
    FnD P w K mg base C exc "parse_sum" 2 1 [] Φ_parse_sum :=
  fn_def (M := []) (Xl := []) (Pn := []) Fn sc_parse_sum hmg hb rfl (by decide) (by decide) (by decide) fun cdv A outer s H E hr => by
    have hu := hr.units
    have hu5 := hr.units5
    exact (gss_cons (gs_if (gt_not (gt_val (ge_isi .str (ge_var 0) T.b_isinstance T.b_str))) (gss_one (gs_raise (cn := 8) rfl (takes_of rfl rfl rfl rfl) (pmk_own PySem.F.excBase_ValueError T.e_ParseError.xP T.e_ParseError.gP T.e_ParseError.kP (raises_own T.e_ParseError.bP T.e_ParseError.tP) rfl))) gss_nil)
  (gss_cons (gs_if (gt_cmp (c_eq hu) (ge_var 0) ge_str) (gss_one (gs_ret (ge_tup ga_nil))) gss_nil)
  (gss_cons (gs_set 1 sc_parse_sum.nd (ge_split (ge_var 0) ge_str))
  (gss_cons (gs_for (passes_of rfl) rfl (gi_seq (ge_var 1)) (gg_name 2 sc_parse_sum.nd) (gss_one (gs_if (gw_or (gt_cmp (c_ne hu) (ge_slice (ge_var 2) go_none (go_some ge_int)) ge_str) (gw_or (gt_not (gt_chain c_le c_le ge_int (ge_callB call_len h_len (ga_cons (ge_slice (ge_var 2) (go_some ge_int) go_none) ga_nil) T.b_len (by decide +kernel)) ge_int)) (gw_or1 (gt_not (gt_val (ge_callB (cr_all rfl) h_all (ga_cons (ge_lc rfl sc_parse_sum.nd (gi_str (ge_slice (ge_var 2) (go_some ge_int) go_none)) (blkOk_by (own := [("sign", 4)]) (by first | (show blkC ["text", "words", "word", "value", "sign"] (defScope s_parse_sum) _ _ = true; decide +kernel) | kernel_rfl)) (fun _ _ _ _ _ => (gg_name 4 sc_parse_sum.nd)) (fun _ _ _ _ _ => gts_nil) (fun _ _ _ _ _ => (ge_cmp c_inS (ge_var 4) (ge_globS T.g_DIGITS)))) ga_nil) T.b_all (by decide +kernel))))))).gt (gss_one (gs_raise (cn := 8) rfl (takes_of rfl rfl rfl rfl) (pmk_own PySem.F.excBase_ValueError T.e_ParseError.xP T.e_ParseError.gP T.e_ParseError.kP (raises_own T.e_ParseError.bP T.e_ParseError.tP) rfl))) gss_nil)))
  (gss_cons (gs_set 3 sc_parse_sum.nd (ge_callTy call_tuple_of h_tupleOf (ga_cons (ge_lc rfl sc_parse_sum.nd (gi_seq (ge_var 1)) (blkOk_by (own := [("word", 2)]) (by first | (show blkC ["text", "words", "word", "value", "sign"] (defScope s_parse_sum) _ _ = true; decide +kernel) | kernel_rfl)) (fun _ _ _ _ _ => (gg_name 2 sc_parse_sum.nd)) (fun _ _ _ _ _ => gts_nil) (fun _ _ _ _ _ => (ge_callTy call_int_str h_int (ga_cons (ge_slice (ge_var 2) (go_some ge_int) go_none) ga_nil) T.b_int (by decide +kernel)))) ga_nil) T.b_tuple (by decide +kernel)))
  (gss_cons (gs_if (gw_or (gt_not (gt_val (ge_call D_is_sum (hr.mono (by decide)) (takes_of rfl rfl rfl rfl) (gc_cons (ge_var 3) gc_nil)))) (gw_or (gt_cmp c_gt (ge_callB call_len h_len (ga_cons (ge_var 3) ga_nil) T.b_len (by decide +kernel)) ge_int) (gw_or1 (gt_cmp (c_ne hu) (ge_call D_text_of (hr.mono (by decide)) (takes_of rfl rfl rfl rfl) (gc_cons (ge_var 3) gc_nil)) (ge_var 0))))).gt (gss_one (gs_raise (cn := 8) rfl (takes_of rfl rfl rfl rfl) (pmk_own PySem.F.excBase_ValueError T.e_ParseError.xP T.e_ParseError.gP T.e_ParseError.kP (raises_own T.e_ParseError.bP T.e_ParseError.tP) rfl))) gss_nil)
  (gss_one (gs_ret (ge_var 3)))))))))

abbrev s_law_mixed : Stmt := top 47
theorem sc_law_mixed : FnScope ["_law_script", "_law_k", "_law_many", "_law_spun"] ["_law_script", "_law_k", "_law_many"] (defScope s_law_mixed) := ⟨rfl, rfl, rfl, by decide +kernel, rfl, by decide +kernel, by decide +kernel⟩
theorem ok_law_mixed {fa : Addr} {fd : FuncData} (T : Txt K mg exc) (CC : CutC K C) (CI : CutI K C) (mgC : mg "Cutter" = some (.ref C)) (Fn : Fun K "_law_mixed" "_law_mixed" s_law_mixed fa fd) (hmg : mg "_law_mixed" = some (.ref fa)) (hb : Binds K fd ["_law_script", "_law_k", "_law_many"] []) (D_law_cell_at : FnD P w K mg base C exc "_law_cell_at" 1 2 [] (Φ_law_cell_at K)) :
    FnD P w K mg base C exc "_law_mixed" 2 3 [] (Φ_law_mixed K) :=
  fn_def (M := []) (Xl := []) (Pn := []) Fn sc_law_mixed hmg hb rfl (by decide) (by decide) (by decide) fun cdv A outer s H E hr => by
    have hu := hr.units
    have hu5 := hr.units5
    exact (gss_cons (gs_set 3 sc_law_mixed.nd (ge_mod (ge_add (ge_add (ge_mul (ge_call D_law_cell_at (hr.mono (by decide)) (takes_of rfl rfl rfl rfl) (gc_cons (ge_var 0) (gc_cons (ge_var 1) gc_nil))) ge_int) (ge_mul ge_int (ge_var 1))) ge_int) ge_int))
  (gss_one (gs_ret (ge_mod (ge_mod (ge_mod (ge_pow (ge_var 3) ge_int) ge_int) ge_int) (ge_var 2)))))

abbrev s_check_fraction : Stmt := top 17
theorem sc_check_fraction : FnScope ["fraction"] ["fraction"] (defScope s_check_fraction) := ⟨rfl, rfl, rfl, by decide +kernel, rfl, by decide +kernel, by decide +kernel⟩
theorem ok_check_fraction {fa : Addr} {fd : FuncData} (T : Txt K mg exc) (CC : CutC K C) (CI : CutI K C) (mgC : mg "Cutter" = some (.ref C)) (Fn : Fun K "check_fraction" "check_fraction" s_check_fraction fa fd) (hmg : mg "check_fraction" = some (.ref fa)) (hb : Binds K fd ["fraction"] []) (D_is_fraction : FnD P w K mg base C exc "is_fraction" 2 1 [] Φ_is_fraction) :
    FnD P w K mg base C exc "check_fraction" 3 1 [] Φ_check_fraction :=
  fn_def (M := []) (Xl := []) (Pn := []) Fn sc_check_fraction hmg hb rfl (by decide) (by decide) (by decide) fun cdv A outer s H E hr => by
    have hu := hr.units
    have hu5 := hr.units5
    exact (gss_one (gs_if (gt_not (gt_val (ge_call D_is_fraction (hr.mono (by decide)) (takes_of rfl rfl rfl rfl) (gc_cons (ge_var 0) gc_nil)))) (gss_one (gs_raise (cn := 0) rfl (takes_of rfl rfl rfl rfl) (pmk_own PySem.F.excBase_ValueError T.e_InvalidFraction.xP T.e_InvalidFraction.gP T.e_InvalidFraction.kP (raises_own T.e_InvalidFraction.bP T.e_InvalidFraction.tP) rfl))) gss_nil))

abbrev s_less_part : Stmt := top 21
theorem sc_less_part : FnScope ["rest", "part"] ["rest", "part"] (defScope s_less_part) := ⟨rfl, rfl, rfl, by decide +kernel, rfl, by decide +kernel, by decide +kernel⟩
theorem ok_less_part {fa : Addr} {fd : FuncData} (T : Txt K mg exc) (CC : CutC K C) (CI : CutI K C) (mgC : mg "Cutter" = some (.ref C)) (Fn : Fun K "less_part" "less_part" s_less_part fa fd) (hmg : mg "less_part" = some (.ref fa)) (hb : Binds K fd ["rest", "part"] []) (D_lowest : FnD P w K mg base C exc "lowest" 2 2 [] Φ_lowest) :
    FnD P w K mg base C exc "less_part" 3 2 [] Φ_less_part :=
  fn_def (M := []) (Xl := []) (Pn := []) Fn sc_less_part hmg hb rfl (by decide) (by decide) (by decide) fun cdv A outer s H E hr => by
    have hu := hr.units
    have hu5 := hr.units5
    exact (gss_one (gs_ret (ge_call D_lowest (hr.mono (by decide)) (takes_of rfl rfl rfl rfl) (gc_cons (ge_sub (ge_mul (ge_ix (ge_var 0) ge_int) (ge_var 1)) (ge_ix (ge_var 0) ge_int)) (gc_cons (ge_mul (ge_ix (ge_var 0) ge_int) (ge_var 1)) gc_nil)))))

abbrev s_total_of : Stmt := top 22
theorem sc_total_of : FnScope ["value", "result", "part"] ["value"] (defScope s_total_of) := ⟨rfl, rfl, rfl, by decide +kernel, rfl, by decide +kernel, by decide +kernel⟩
theorem ok_total_of {fa : Addr} {fd : FuncData} (T : Txt K mg exc) (CC : CutC K C) (CI : CutI K C) (mgC : mg "Cutter" = some (.ref C)) (Fn : Fun K "total_of" "total_of" s_total_of fa fd) (hmg : mg "total_of" = some (.ref fa)) (hb : Binds K fd ["value"] []) (D_lowest : FnD P w K mg base C exc "lowest" 2 2 [] Φ_lowest) :
    FnD P w K mg base C exc "total_of" 3 1 [] Φ_total_of :=
  fn_def (M := []) (Xl := []) (Pn := []) Fn sc_total_of hmg hb rfl (by decide) (by decide) (by decide) fun cdv A outer s H E hr => by
    have hu := hr.units
    have hu5 := hr.units5
    exact (gss_cons (gs_set 1 sc_total_of.nd (ge_tup (ga_cons ge_int (ga_cons ge_int ga_nil))))
  (gss_cons (gs_for (passes_of rfl) rfl (gi_seq (ge_var 0)) (gg_name 2 sc_total_of.nd) (gss_one (gs_set 1 sc_total_of.nd (ge_call D_lowest (hr.mono (by decide)) (takes_of rfl rfl rfl rfl) (gc_cons (ge_add (ge_mul (ge_ix (ge_var 1) ge_int) (ge_var 2)) (ge_ix (ge_var 1) ge_int)) (gc_cons (ge_mul (ge_ix (ge_var 1) ge_int) (ge_var 2)) gc_nil))))))
  (gss_one (gs_ret (ge_var 1)))))

abbrev s_format_sum : Stmt := top 28
theorem sc_format_sum : FnScope ["value"] ["value"] (defScope s_format_sum) := ⟨rfl, rfl, rfl, by decide +kernel, rfl, by decide +kernel, by decide +kernel⟩
theorem ok_format_sum {fa : Addr} {fd : FuncData} (T : Txt K mg exc) (CC : CutC K C) (CI : CutI K C) (mgC : mg "Cutter" = some (.ref C)) (Fn : Fun K "format_sum" "format_sum" s_format_sum fa fd) (hmg : mg "format_sum" = some (.ref fa)) (hb : Binds K fd ["value"] []) (D_check_sum : FnD P w K mg base C exc "check_sum" 2 3 [] Φ_check_sum) (D_text_of : FnD P w K mg base C exc "text_of" 1 1 [] Φ_text_of) :
    FnD P w K mg base C exc "format_sum" 3 1 [] Φ_format_sum :=
  fn_def (M := []) (Xl := []) (Pn := []) Fn sc_format_sum hmg hb rfl (by decide) (by decide) (by decide) fun cdv A outer s H E hr => by
    have hu := hr.units
    have hu5 := hr.units5
    exact (gss_cons (gs_expr (ge_call D_check_sum (hr.mono (by decide)) (takes_of rfl rfl rfl rfl) (gc_cons (ge_var 0) (gc_cons ge_int (gc_cons ge_int gc_nil)))))
  (gss_one (gs_ret (ge_call D_text_of (hr.mono (by decide)) (takes_of rfl rfl rfl rfl) (gc_cons (ge_var 0) gc_nil)))))

abbrev s_split : Stmt := top 43
theorem sc_split : FnScope ["value", "part", "rest", "one"] ["value", "part"] (defScope s_split) := ⟨rfl, rfl, rfl, by decide +kernel, rfl, by decide +kernel, by decide +kernel⟩
theorem ok_split {fa : Addr} {fd : FuncData} (T : Txt K mg exc) (CC : CutC K C) (CI : CutI K C) (mgC : mg "Cutter" = some (.ref C)) (Fn : Fun K "split" "split" s_split fa fd) (hmg : mg "split" = some (.ref fa)) (hb : Binds K fd ["value", "part"] []) (D_can_split : FnD P w K mg base C exc "can_split" 1 2 [] Φ_can_split) (D_check_sum : FnD P w K mg base C exc "check_sum" 2 3 [] Φ_check_sum) (D_is_integer : FnD P w K mg base C exc "is_integer" 1 3 [] Φ_is_integer) :
    FnD P w K mg base C exc "split" 3 2 [] Φ_split :=
  fn_def (M := []) (Xl := []) (Pn := []) Fn sc_split hmg hb rfl (by decide) (by decide) (by decide) fun cdv A outer s H E hr => by
    have hu := hr.units
    have hu5 := hr.units5
    exact (gss_cons (gs_expr (ge_call D_check_sum (hr.mono (by decide)) (takes_of rfl rfl rfl rfl) (gc_cons (ge_var 0) (gc_cons ge_int (gc_cons ge_int gc_nil)))))
  (gss_cons (gs_if (gw_or (gt_not (gt_val (ge_call D_is_integer (hr.mono (by decide)) (takes_of rfl rfl rfl rfl) (gc_cons (ge_var 1) (gc_cons ge_int (gc_cons ge_int gc_nil)))))) (gw_or1 (gt_cmp (c_notIn hu5) (ge_var 1) (ge_var 0)))).gt (gss_one (gs_raise (cn := 3) rfl (takes_of rfl rfl rfl rfl) (pmk_own PySem.F.excBase_ValueError T.e_NotThere.xP T.e_NotThere.gP T.e_NotThere.kP (raises_own T.e_NotThere.bP T.e_NotThere.tP) rfl))) gss_nil)
  (gss_cons (gs_if (gt_not (gt_val (ge_call D_can_split (hr.mono (by decide)) (takes_of rfl rfl rfl rfl) (gc_cons (ge_var 0) (gc_cons (ge_var 1) gc_nil))))) (gss_one (gs_raise (cn := 4) rfl (takes_of rfl rfl rfl rfl) (pmk_own PySem.F.excBase_ValueError T.e_CannotSplit.xP T.e_CannotSplit.gP T.e_CannotSplit.kP (raises_own T.e_CannotSplit.bP T.e_CannotSplit.tP) rfl))) gss_nil)
  (gss_cons (gs_set 2 sc_split.nd (ge_callTy call_tuple_of h_tupleOf (ga_cons (ge_lc rfl sc_split.nd (gi_seq (ge_var 0)) (blkOk_by (own := [("one", 3)]) (by first | (show blkC ["value", "part", "rest", "one"] (defScope s_split) _ _ = true; decide +kernel) | kernel_rfl)) (fun _ _ _ _ _ => (gg_name 3 sc_split.nd)) (fun _ _ _ _ _ => (gts_one (gt_cmp (c_ne hu) (ge_var 3) (ge_var 1)))) (fun _ _ _ _ _ => (ge_var 3))) ga_nil) T.b_tuple (by decide +kernel)))
  (gss_one (gs_ret (ge_callTy call_tuple_of h_tupleOf (ga_cons (ge_callB EvS.cr_sortedG h_sorted (ga_cons (ge_add (ge_var 2) (ge_tup (ga_cons (ge_add (ge_var 1) ge_int) (ga_cons (ge_mul (ge_var 1) (ge_add (ge_var 1) ge_int)) ga_nil)))) ga_nil) T.b_sorted (by decide +kernel)) ga_nil) T.b_tuple (by decide +kernel))))))))

abbrev s_splittable : Stmt := top 44
theorem sc_splittable : FnScope ["value", "part"] ["value"] (defScope s_splittable) := ⟨rfl, rfl, rfl, by decide +kernel, rfl, by decide +kernel, by decide +kernel⟩
theorem ok_splittable {fa : Addr} {fd : FuncData} (T : Txt K mg exc) (CC : CutC K C) (CI : CutI K C) (mgC : mg "Cutter" = some (.ref C)) (Fn : Fun K "splittable" "splittable" s_splittable fa fd) (hmg : mg "splittable" = some (.ref fa)) (hb : Binds K fd ["value"] []) (D_can_split : FnD P w K mg base C exc "can_split" 1 2 [] Φ_can_split) (D_check_sum : FnD P w K mg base C exc "check_sum" 2 3 [] Φ_check_sum) :
    FnD P w K mg base C exc "splittable" 3 1 [] Φ_splittable :=
  fn_def (M := []) (Xl := []) (Pn := []) Fn sc_splittable hmg hb rfl (by decide) (by decide) (by decide) fun cdv A outer s H E hr => by
    have hu := hr.units
    have hu5 := hr.units5
    exact (gss_cons (gs_expr (ge_call D_check_sum (hr.mono (by decide)) (takes_of rfl rfl rfl rfl) (gc_cons (ge_var 0) (gc_cons ge_int (gc_cons ge_int gc_nil)))))
  (gss_one (gs_ret (ge_lc rfl sc_splittable.nd (gi_seq (ge_var 0)) (blkOk_by (own := [("part", 1)]) (by first | (show blkC ["value", "part"] (defScope s_splittable) _ _ = true; decide +kernel) | kernel_rfl)) (fun _ _ _ _ _ => (gg_name 1 sc_splittable.nd)) (fun _ _ _ _ _ => (gts_one (gt_val (ge_call D_can_split (hr.mono (by decide)) takes0 (gc_cons (ge_var 0) (gc_cons (ge_var 1) gc_nil)))))) (fun _ _ _ _ _ => (ge_var 1))))))

abbrev s_law_draw : Stmt := top 48
theorem sc_law_draw : FnScope ["_law_script", "_law_town", "_law_many"] ["_law_script", "_law_town", "_law_many"] (defScope s_law_draw) := ⟨rfl, rfl, rfl, by decide +kernel, rfl, by decide +kernel, by decide +kernel⟩
theorem ok_law_draw {fa : Addr} {fd : FuncData} (T : Txt K mg exc) (CC : CutC K C) (CI : CutI K C) (mgC : mg "Cutter" = some (.ref C)) (Fn : Fun K "_law_draw" "_law_draw" s_law_draw fa fd) (hmg : mg "_law_draw" = some (.ref fa)) (hb : Binds K fd ["_law_script", "_law_town", "_law_many"] []) (D_law_mixed : FnD P w K mg base C exc "_law_mixed" 2 3 [] (Φ_law_mixed K)) :
    FnD P w K mg base C exc "_law_draw" 3 3 [1] (Φ_law_draw K) :=
  fn_def (M := []) (Xl := []) (Pn := []) Fn sc_law_draw hmg hb rfl (by decide) (by decide) (by decide) fun cdv A outer s H E hr => by
    have hu := hr.units
    have hu5 := hr.units5
    exact (gss_cons (gs_townAdd 1)
  (gss_one (gs_ret (ge_call D_law_mixed (hr.mono (by decide)) (takes_of rfl rfl rfl rfl) (gc_cons (ge_var 0) (gc_cons (ge_townLen 1 T.b_len) (gc_cons (ge_var 2) gc_nil)))))))

abbrev s_Cutter_init : Stmt := inClass (top 34) 0
theorem sc_Cutter_init : FnScope ["self", "fraction"] ["self", "fraction"] (defScope s_Cutter_init) := ⟨rfl, rfl, rfl, by decide +kernel, rfl, by decide +kernel, by decide +kernel⟩
theorem ok_Cutter_init {fa : Addr} {fd : FuncData} (T : Txt K mg exc) (CC : CutC K C) (CI : CutI K C) (mgC : mg "Cutter" = some (.ref C)) (Fn : Fun K "__init__" "Cutter.__init__" s_Cutter_init fa fd) (M : Mk K C fa) (hb : Binds K fd ["self", "fraction"] []) (D_check_fraction : FnD P w K mg base C exc "check_fraction" 3 1 [] Φ_check_fraction) : MkX P w K mg base C exc "Cutter" 4 Φ_check_fraction := by
  obtain ⟨fc, fdc, psc, Fc, hmc, hkc, hbc⟩ := D_check_fraction.ex
  exact ⟨fa, fd, _, Fn.okX (k := 3) sc_Cutter_init (fun vs H Q E h => by obtain ⟨p, dx, v, d, rfl, _⟩ := h; rfl) (fun cdv A outer s H vs Q E hr h => ⟨_, pss_cons (ps_expr (pe_callS (E := fun σ => WE (WD E) σ) Fc (hr.mono (by decide)) rfl hmc hkc hbc (fun σ => passAt (takes_of rfl rfl rfl rfl) σ) (pa_cons (pv 1) pa_nil))) (pss_cons (ps_fld (pv 0) (pv 1) rfl) (pss_cons (ps_fld (pv 0) (pe_lst pa_nil) rfl) (pss_one (ps_fld (pv 0) pe_int rfl)))), init_read CC h⟩), mgC, M, hb⟩

abbrev s_Cutter_left : Stmt := inClass (top 34) 2
theorem sc_Cutter_left : FnScope ["self", "rest", "part"] ["self"] (defScope s_Cutter_left) := ⟨rfl, rfl, rfl, by decide +kernel, rfl, by decide +kernel, by decide +kernel⟩
theorem ok_Cutter_left {fa : Addr} {fd : FuncData} (T : Txt K mg exc) (CC : CutC K C) (CI : CutI K C) (mgC : mg "Cutter" = some (.ref C)) (Fn : Fun K "left" "Cutter.left" s_Cutter_left fa fd) (Me : Meth K C "left" fa) (hb : Binds K fd ["self"] []) (D_less_part : FnD P w K mg base C exc "less_part" 3 2 [] Φ_less_part) : MtD P w K mg base C exc "left" 4 1 [0] Φ_Cutter_left := by
  obtain ⟨fc, fdc, psc, Fc, hmc, hkc, hbc⟩ := D_less_part.ex
  exact ⟨fa, fd, _, Fn.okX (k := 3) sc_Cutter_left (fun vs H Q E h => by obtain ⟨ds, F, hl, a, _⟩ := h; rw [a.len, hl]; rfl) (fun cdv A outer s H vs Q E hr h => ⟨_, pss_cons (ps_set sc_Cutter_left.nd rfl (by first | exact Or.inl rfl | exact Or.inr rfl) (pe_fld (pv 0) rfl)) (pss_cons (ps_for (passes_of rfl) rfl (pi_seq (pe_fld (pv 0) rfl)) (pg_name sc_Cutter_left.nd rfl (by first | exact Or.inl rfl | exact Or.inr rfl)) (pss_one (ps_set sc_Cutter_left.nd rfl (by first | exact Or.inl rfl | exact Or.inr rfl) (pe_callS (E := fun σ => WE (WD E) σ) Fc (hr.mono (by decide)) rfl hmc hkc hbc (fun σ => passAt (takes_of rfl rfl rfl rfl) σ) (pa_cons (pv 1) (pa_cons (pv 2) pa_nil))))) (by intro _; rfl)) (pss_one (ps_ret (pv 1)))), left_read CC h⟩), Me, hb⟩

abbrev s_total : Stmt := top 23
theorem sc_total : FnScope ["value"] ["value"] (defScope s_total) := ⟨rfl, rfl, rfl, by decide +kernel, rfl, by decide +kernel, by decide +kernel⟩
theorem ok_total {fa : Addr} {fd : FuncData} (T : Txt K mg exc) (CC : CutC K C) (CI : CutI K C) (mgC : mg "Cutter" = some (.ref C)) (Fn : Fun K "total" "total" s_total fa fd) (hmg : mg "total" = some (.ref fa)) (hb : Binds K fd ["value"] []) (D_check_sum : FnD P w K mg base C exc "check_sum" 2 3 [] Φ_check_sum) (D_total_of : FnD P w K mg base C exc "total_of" 3 1 [] Φ_total_of) :
    FnD P w K mg base C exc "total" 4 1 [] Φ_total :=
  fn_def (M := []) (Xl := []) (Pn := []) Fn sc_total hmg hb rfl (by decide) (by decide) (by decide) fun cdv A outer s H E hr => by
    have hu := hr.units
    have hu5 := hr.units5
    exact (gss_cons (gs_expr (ge_call D_check_sum (hr.mono (by decide)) (takes_of rfl rfl rfl rfl) (gc_cons (ge_var 0) (gc_cons ge_int (gc_cons ge_int gc_nil)))))
  (gss_one (gs_ret (ge_call D_total_of (hr.mono (by decide)) (takes_of rfl rfl rfl rfl) (gc_cons (ge_var 0) gc_nil)))))

abbrev s_is_sum_of : Stmt := top 24
theorem sc_is_sum_of : FnScope ["fraction", "value"] ["fraction", "value"] (defScope s_is_sum_of) := ⟨rfl, rfl, rfl, by decide +kernel, rfl, by decide +kernel, by decide +kernel⟩
theorem ok_is_sum_of {fa : Addr} {fd : FuncData} (T : Txt K mg exc) (CC : CutC K C) (CI : CutI K C) (mgC : mg "Cutter" = some (.ref C)) (Fn : Fun K "is_sum_of" "is_sum_of" s_is_sum_of fa fd) (hmg : mg "is_sum_of" = some (.ref fa)) (hb : Binds K fd ["fraction", "value"] []) (D_check_fraction : FnD P w K mg base C exc "check_fraction" 3 1 [] Φ_check_fraction) (D_is_sum : FnD P w K mg base C exc "is_sum" 1 1 [] Φ_is_sum) (D_total_of : FnD P w K mg base C exc "total_of" 3 1 [] Φ_total_of) :
    FnD P w K mg base C exc "is_sum_of" 4 2 [] Φ_is_sum_of :=
  fn_def (M := []) (Xl := []) (Pn := []) Fn sc_is_sum_of hmg hb rfl (by decide) (by decide) (by decide) fun cdv A outer s H E hr => by
    have hu := hr.units
    have hu5 := hr.units5
    exact (gss_cons (gs_expr (ge_call D_check_fraction (hr.mono (by decide)) (takes_of rfl rfl rfl rfl) (gc_cons (ge_var 0) gc_nil)))
  (gss_one (gs_ret (ge_and (ge_call D_is_sum (hr.mono (by decide)) (takes_of rfl rfl rfl rfl) (gc_cons (ge_var 1) gc_nil)) (ge_one (ge_cmp (c_eq hu) (ge_call D_total_of (hr.mono (by decide)) (takes_of rfl rfl rfl rfl) (gc_cons (ge_var 1) gc_nil)) (ge_var 0)))))))

abbrev s_greedyF : Stmt := top 32
theorem sc_greedyF : FnScope ["fraction", "rest", "found"] ["fraction"] (defScope s_greedyF) := ⟨rfl, rfl, rfl, by decide +kernel, rfl, by decide +kernel, by decide +kernel⟩
theorem ok_greedyF {fa : Addr} {fd : FuncData} (T : Txt K mg exc) (CC : CutC K C) (CI : CutI K C) (mgC : mg "Cutter" = some (.ref C)) (Fn : Fun K "greedy" "greedy" s_greedyF fa fd) (hmg : mg "greedy" = some (.ref fa)) (hb : Binds K fd ["fraction"] []) (D_check_fraction : FnD P w K mg base C exc "check_fraction" 3 1 [] Φ_check_fraction) (D_greatest_in : FnD P w K mg base C exc "greatest_in" 1 1 [] Φ_greatest_in) (D_less_part : FnD P w K mg base C exc "less_part" 3 2 [] Φ_less_part) :
    FnD P w K mg base C exc "greedy" 4 1 [] Φ_greedyF :=
  fn_def (M := [2]) (Xl := []) (Pn := []) Fn sc_greedyF hmg hb rfl (by decide) (by decide) (by decide) fun cdv A outer s H E hr => by
    have hu := hr.units
    have hu5 := hr.units5
    exact (gss_cons (gs_expr (ge_call D_check_fraction (hr.mono (by decide)) (takes_of rfl rfl rfl rfl) (gc_cons (ge_var 0) gc_nil)))
  (gss_cons (gs_parM 1 2 rfl sc_greedyF.nd (ge_var 0) (gn_lst ga_nil))
  (gss_cons (gs_while fuelW (passes_of rfl) (gt_cmp c_gt (ge_ix (ge_var 1) ge_int) ge_int) (gss_cons (gs_append 2 (ge_call D_greatest_in (hr.mono (by decide)) (takes_of rfl rfl rfl rfl) (gc_cons (ge_var 1) gc_nil)))
  (gss_one (gs_set 1 sc_greedyF.nd (ge_call D_less_part (hr.mono (by decide)) (takes_of rfl rfl rfl rfl) (gc_cons (ge_var 1) (gc_cons (ge_ix (ge_varM 2) (ge_neg ge_int)) gc_nil)))))))
  (gss_one (gs_ret (ge_callTy call_tupleF h_tupleF (ga_cons (ge_varM 2) ga_nil) T.b_tuple (by decide +kernel)))))))

abbrev s_law_pick : Stmt := top 49
theorem sc_law_pick : FnScope ["_law_script", "_law_town", "_law_some"] ["_law_script", "_law_town", "_law_some"] (defScope s_law_pick) := ⟨rfl, rfl, rfl, by decide +kernel, rfl, by decide +kernel, by decide +kernel⟩
theorem ok_law_pick {fa : Addr} {fd : FuncData} (T : Txt K mg exc) (CC : CutC K C) (CI : CutI K C) (mgC : mg "Cutter" = some (.ref C)) (Fn : Fun K "_law_pick" "_law_pick" s_law_pick fa fd) (hmg : mg "_law_pick" = some (.ref fa)) (hb : Binds K fd ["_law_script", "_law_town", "_law_some"] []) (D_law_draw : FnD P w K mg base C exc "_law_draw" 3 3 [1] (Φ_law_draw K)) :
    FnD P w K mg base C exc "_law_pick" 4 3 [1] (Φ_law_pick K) :=
  fn_def (M := []) (Xl := []) (Pn := []) Fn sc_law_pick hmg hb rfl (by decide) (by decide) (by decide) fun cdv A outer s H E hr => by
    have hu := hr.units
    have hu5 := hr.units5
    exact (gss_one (gs_ret (ge_ix (ge_var 2) (ge_call D_law_draw (hr.mono (by decide)) (takes_of rfl rfl rfl rfl) (gc_cons (ge_var 0) (gc_x 1 (gc_cons (ge_callB call_len h_len (ga_cons (ge_var 2) ga_nil) T.b_len (by decide +kernel)) gc_nil)))))))

abbrev s_Cutter_cut : Stmt := inClass (top 34) 1
theorem sc_Cutter_cut : FnScope ["self", "part", "rest"] ["self", "part"] (defScope s_Cutter_cut) := ⟨rfl, rfl, rfl, by decide +kernel, rfl, by decide +kernel, by decide +kernel⟩
theorem ok_Cutter_cut {fa : Addr} {fd : FuncData} (T : Txt K mg exc) (CC : CutC K C) (CI : CutI K C) (mgC : mg "Cutter" = some (.ref C)) (Fn : Fun K "cut" "Cutter.cut" s_Cutter_cut fa fd) (Me : Meth K C "cut" fa) (hb : Binds K fd ["self", "part"] []) (D_Cutter_left : MtD P w K mg base C exc "left" 4 1 [0] Φ_Cutter_left) (D_is_integer : FnD P w K mg base C exc "is_integer" 1 3 [] Φ_is_integer) :
    MtD P w K mg base C exc "cut" 5 2 [0] Φ_Cutter_cut :=
  ⟨fa, fd, _, fn_ok (kk := 4) (M := []) (Xl := []) (Pn := []) Fn sc_Cutter_cut rfl (by decide) (by decide) (by decide) (fun cdv A outer s H E hr => by
    have hu := hr.units
    have hu5 := hr.units5
    exact (gss_cons (gs_if (gt_not (gt_val (ge_call D_is_integer (hr.mono (by decide)) (takes_of rfl rfl rfl rfl) (gc_cons (ge_var 1) (gc_cons ge_int (gc_cons ge_int gc_nil)))))) (gss_one (gs_raise (cn := 2) rfl (takes_of rfl rfl rfl rfl) (pmk_own PySem.F.excBase_ValueError T.e_InvalidNumber.xP T.e_InvalidNumber.gP T.e_InvalidNumber.kP (raises_own T.e_InvalidNumber.bP T.e_InvalidNumber.tP) rfl))) gss_nil)
  (gss_cons (gs_if (gt_cmpY (c_in hu5) (ge_var 1) (gy_gone 0 CC)) (gss_one (gs_raise (cn := 6) rfl (takes_of rfl rfl rfl rfl) (pmk_own PySem.F.excBase_ValueError T.e_Used.xP T.e_Used.gP T.e_Used.kP (raises_own T.e_Used.bP T.e_Used.tP) rfl))) gss_nil)
  (gss_cons (gs_set 2 sc_Cutter_cut.nd (ge_meth0 0 D_Cutter_left CC (hr.mono (by decide)) (takes_of rfl rfl rfl rfl)))
  (gss_cons (gs_if (gw_or (gt_cmp c_lt (ge_mul (ge_ix (ge_var 2) ge_int) (ge_var 1)) (ge_ix (ge_var 2) ge_int)) (gw_or1 (gt_cmp (c_eq hu) (ge_callBY call_len h_len (gy_gone 0 CC) T.b_len (by decide +kernel)) ge_int))).gt (gss_one (gs_raise (cn := 5) rfl (takes_of rfl rfl rfl rfl) (pmk_own PySem.F.excBase_ValueError T.e_TooGreat.xP T.e_TooGreat.gP T.e_TooGreat.kP (raises_own T.e_TooGreat.bP T.e_TooGreat.tP) rfl))) gss_nil)
  (gss_cons (gs_xapp 0 1 CC)
  (gss_one (gs_ret (ge_meth0 0 D_Cutter_left CC (hr.mono (by decide)) (takes_of rfl rfl rfl rfl)))))))))), Me, hb⟩

abbrev s_Cutter_next_part : Stmt := inClass (top 34) 4
theorem sc_Cutter_next_part : FnScope ["self", "rest", "part"] ["self"] (defScope s_Cutter_next_part) := ⟨rfl, rfl, rfl, by decide +kernel, rfl, by decide +kernel, by decide +kernel⟩
theorem ok_Cutter_next_part {fa : Addr} {fd : FuncData} (T : Txt K mg exc) (CC : CutC K C) (CI : CutI K C) (mgC : mg "Cutter" = some (.ref C)) (Fn : Fun K "next_part" "Cutter.next_part" s_Cutter_next_part fa fd) (Me : Meth K C "next_part" fa) (hb : Binds K fd ["self"] []) (D_Cutter_left : MtD P w K mg base C exc "left" 4 1 [0] Φ_Cutter_left) (D_greatest_in : FnD P w K mg base C exc "greatest_in" 1 1 [] Φ_greatest_in) :
    MtD P w K mg base C exc "next_part" 5 1 [0] Φ_Cutter_next_part :=
  ⟨fa, fd, _, fn_ok (kk := 4) (M := []) (Xl := []) (Pn := []) Fn sc_Cutter_next_part rfl (by decide) (by decide) (by decide) (fun cdv A outer s H E hr => by
    have hu := hr.units
    have hu5 := hr.units5
    exact (gss_cons (gs_set 1 sc_Cutter_next_part.nd (ge_meth0 0 D_Cutter_left CC (hr.mono (by decide)) (takes_of rfl rfl rfl rfl)))
  (gss_cons (gs_if (gt_cmp (c_eq hu) (ge_ix (ge_var 1) ge_int) ge_int) (gss_one (gs_ret ge_non)) gss_nil)
  (gss_cons (gs_set 2 sc_Cutter_next_part.nd (ge_callB (call_max2 rfl) h_max2 (ga_cons (ge_call D_greatest_in (hr.mono (by decide)) (takes_of rfl rfl rfl rfl) (gc_cons (ge_var 1) gc_nil)) (ga_cons ge_int ga_nil)) T.b_max (by decide +kernel)))
  (gss_cons (gs_while fuelW (passes_of rfl) (gt_cmpY (c_in hu5) (ge_var 2) (gy_gone 0 CC)) (gss_one (gs_augAdd 2 sc_Cutter_next_part.nd ge_int)))
  (gss_one (gs_ret (ge_var 2)))))))), Me, hb⟩

abbrev s_Cutter_undo : Stmt := inClass (top 34) 5
theorem sc_Cutter_undo : FnScope ["self"] ["self"] (defScope s_Cutter_undo) := ⟨rfl, rfl, rfl, by decide +kernel, rfl, by decide +kernel, by decide +kernel⟩
theorem ok_Cutter_undo {fa : Addr} {fd : FuncData} (T : Txt K mg exc) (CC : CutC K C) (CI : CutI K C) (mgC : mg "Cutter" = some (.ref C)) (Fn : Fun K "undo" "Cutter.undo" s_Cutter_undo fa fd) (Me : Meth K C "undo" fa) (hb : Binds K fd ["self"] []) (D_Cutter_left : MtD P w K mg base C exc "left" 4 1 [0] Φ_Cutter_left) :
    MtD P w K mg base C exc "undo" 5 1 [0] Φ_Cutter_undo :=
  ⟨fa, fd, _, fn_ok (kk := 4) (M := []) (Xl := []) (Pn := []) Fn sc_Cutter_undo rfl (by decide) (by decide) (by decide) (fun cdv A outer s H E hr => by
    have hu := hr.units
    have hu5 := hr.units5
    exact (gss_cons (gs_if (gt_cmp (c_eq hu) (ge_callBY call_len h_len (gy_gone 0 CC) T.b_len (by decide +kernel)) (ge_xkept 0 CC)) (gss_one (gs_raise (cn := 7) rfl (takes_of rfl rfl rfl rfl) (pmk_own PySem.F.excBase_ValueError T.e_NothingToUndo.xP T.e_NothingToUndo.gP T.e_NothingToUndo.kP (raises_own T.e_NothingToUndo.bP T.e_NothingToUndo.tP) rfl))) gss_nil)
  (gss_cons (gs_xcut 0 CC)
  (gss_one (gs_ret (ge_meth0 0 D_Cutter_left CC (hr.mono (by decide)) (takes_of rfl rfl rfl rfl))))))), Me, hb⟩

abbrev s_law_some_share : Stmt := top 51
theorem sc_law_some_share : FnScope ["_law_script", "_law_town", "_law_b", "_law_a"] ["_law_script", "_law_town"] (defScope s_law_some_share) := ⟨rfl, rfl, rfl, by decide +kernel, rfl, by decide +kernel, by decide +kernel⟩
theorem ok_law_some_share {fa : Addr} {fd : FuncData} (T : Txt K mg exc) (CC : CutC K C) (CI : CutI K C) (mgC : mg "Cutter" = some (.ref C)) (Fn : Fun K "_law_some_share" "_law_some_share" s_law_some_share fa fd) (hmg : mg "_law_some_share" = some (.ref fa)) (hb : Binds K fd ["_law_script", "_law_town"] []) (D_law_draw : FnD P w K mg base C exc "_law_draw" 3 3 [1] (Φ_law_draw K)) (D_law_pick : FnD P w K mg base C exc "_law_pick" 4 3 [1] (Φ_law_pick K)) (D_law_shared : FnD P w K mg base C exc "_law_shared" 1 2 [] Φ_law_shared) :
    FnD P w K mg base C exc "_law_some_share" 5 2 [1] (Φ_law_some_share K) :=
  fn_def (M := []) (Xl := []) (Pn := []) Fn sc_law_some_share hmg hb rfl (by decide) (by decide) (by decide) fun cdv A outer s H E hr => by
    have hu := hr.units
    have hu5 := hr.units5
    exact (gss_cons (gs_set 2 sc_law_some_share.nd (ge_add ge_int (ge_call D_law_draw (hr.mono (by decide)) (takes_of rfl rfl rfl rfl) (gc_cons (ge_var 0) (gc_x 1 (gc_cons ge_int gc_nil))))))
  (gss_one (gs_ret (ge_tup (ga_cons (ge_call D_law_pick (hr.mono (by decide)) (takes_of rfl rfl rfl rfl) (gc_cons (ge_var 0) (gc_x 1 (gc_cons (ge_lc rfl sc_law_some_share.nd (gi_range2 (ga_cons ge_int (ga_cons (ge_var 2) ga_nil)) T.b_range) (blkOk_by (own := [("_law_a", 3)]) (by first | (show blkC ["_law_script", "_law_town", "_law_b", "_law_a"] (defScope s_law_some_share) _ _ = true; decide +kernel) | kernel_rfl)) (fun _ _ _ _ _ => (gg_name 3 sc_law_some_share.nd)) (fun _ _ _ _ _ => (gts_one (gt_cmp (c_eq hu) (ge_call D_law_shared (hr.mono (by decide)) takes0 (gc_cons (ge_var 2) (gc_cons (ge_var 3) gc_nil))) ge_int))) (fun _ _ _ _ _ => (ge_var 3))) gc_nil)))) (ga_cons (ge_var 2) ga_nil))))))

abbrev s_sum_list : Stmt := top 38
theorem sc_sum_list : FnScope ["rest", "count", "low", "first", "found", "part", "left", "more"] ["rest", "count", "low", "first"] (defScope s_sum_list) := ⟨rfl, rfl, rfl, by decide +kernel, rfl, by decide +kernel, by decide +kernel⟩
theorem ok_sum_list {fa : Addr} {fd : FuncData} (T : Txt K mg exc) (CC : CutC K C) (CI : CutI K C) (mgC : mg "Cutter" = some (.ref C)) (Fn : Fun K "sum_list" "sum_list" s_sum_list fa fd) (hmg : mg "sum_list" = some (.ref fa)) (hb : Binds K fd ["rest", "count", "low", "first"] []) (D_greatest_in : FnD P w K mg base C exc "greatest_in" 1 1 [] Φ_greatest_in) (D_less_part : FnD P w K mg base C exc "less_part" 3 2 [] Φ_less_part) (D_pair_list : FnD P w K mg base C exc "pair_list" 1 2 [] Φ_pair_list) : ∀ m : Nat, FnD P w K mg base C exc "sum_list" (4 + m) 4 [] (Φ_sum_list m)
  | 0 => fn_stuck (N := ["rest", "count", "low", "first", "found", "part", "left", "more"]) Fn sc_sum_list hmg hb
  | m + 1 => by
    have IH := ok_sum_list T CC CI mgC Fn hmg hb D_greatest_in D_less_part D_pair_list m
    exact fn_def (M := [4]) (Xl := []) (Pn := []) Fn sc_sum_list hmg hb rfl (by decide) (by decide) (by decide) fun cdv A outer s H E hr => by
      have hu := hr.units
      have hu5 := hr.units5
      exact (gss_cons (gs_if (gt_cmp (c_eq hu) (ge_var 1) ge_int) (gss_one (gs_ret (ge_if (gw_and (gt_cmp (c_eq hu) (ge_ix (ge_var 0) ge_int) ge_int) (gw_and1 (gt_cmp c_gt (ge_ix (ge_var 0) ge_int) (ge_var 2)))).gt (ge_lst (ga_cons (ge_tup (ga_cons (ge_ix (ge_var 0) ge_int) ga_nil)) ga_nil)) (ge_lst ga_nil)))) gss_nil)
  (gss_cons (gs_if (gt_cmp (c_eq hu) (ge_var 1) ge_int) (gss_cons (gs_setA 4 sc_sum_list.nd (ge_call D_pair_list (hr.mono (Nat.le_trans (by decide) (Nat.le_add_right 4 m))) (takes_of rfl rfl rfl rfl) (gc_cons (ge_var 0) (gc_cons (ge_var 2) gc_nil))))
  (gss_one (gs_retIf 4 (gt_val (ge_var 3)) (ge_slice (ge_varM 4) go_none (go_some ge_int))))) gss_nil)
  (gss_cons (gs_setM 4 sc_sum_list.nd (gn_lst ga_nil))
  (gss_cons (gs_set 5 sc_sum_list.nd (ge_callB (call_max2 rfl) h_max2 (ga_cons (ge_add (ge_var 2) ge_int) (ga_cons (ge_call D_greatest_in (hr.mono (Nat.le_trans (by decide) (Nat.le_add_right 4 m))) (takes_of rfl rfl rfl rfl) (gc_cons (ge_var 0) gc_nil)) ga_nil)) T.b_max (by decide +kernel)))
  (gss_cons (gs_while fuelW (passes_of rfl) (gw_and (gt_cmp c_gt (ge_mul (ge_var 1) (ge_ix (ge_var 0) ge_int)) (ge_mul (ge_ix (ge_var 0) ge_int) (ge_var 5))) (gw_and1 (gt_not (gw_and (gt_val (ge_var 3)) (gw_and1 (gt_cmp (c_ne hu) (ge_varM 4) (ge_lst ga_nil)))).gt))).gt (gss_cons (gs_set 6 sc_sum_list.nd (ge_call D_less_part (hr.mono (Nat.le_trans (by decide) (Nat.le_add_right 4 m))) (takes_of rfl rfl rfl rfl) (gc_cons (ge_var 0) (gc_cons (ge_var 5) gc_nil))))
  (gss_cons (gs_if (gt_cmp c_gt (ge_ix (ge_var 6) ge_int) ge_int) (gss_one (gs_extend 4 (ge_lc rfl sc_sum_list.nd (gi_seq (ge_call IH (hr.mono (Nat.le_refl _)) (takes_of rfl rfl rfl rfl) (gc_cons (ge_var 6) (gc_cons (ge_sub (ge_var 1) ge_int) (gc_cons (ge_var 5) (gc_cons (ge_var 3) gc_nil)))))) (blkOk_by (own := [("more", 7)]) (by first | (show blkC ["rest", "count", "low", "first", "found", "part", "left", "more"] (defScope s_sum_list) _ _ = true; decide +kernel) | kernel_rfl)) (fun _ _ _ _ _ => (gg_name 7 sc_sum_list.nd)) (fun _ _ _ _ _ => gts_nil) (fun _ _ _ _ _ => (ge_add (ge_tup (ga_cons (ge_var 5) ga_nil)) (ge_var 7)))))) gss_nil)
  (gss_one (gs_augAdd 5 sc_sum_list.nd ge_int)))))
  (gss_one (gs_retM 4)))))))

abbrev s_first_of : Stmt := top 39
theorem sc_first_of : FnScope ["fraction", "count", "found"] ["fraction"] (defScope s_first_of) := ⟨rfl, rfl, rfl, by decide +kernel, rfl, by decide +kernel, by decide +kernel⟩
theorem ok_first_of {fa : Addr} {fd : FuncData} (T : Txt K mg exc) (CC : CutC K C) (CI : CutI K C) (mgC : mg "Cutter" = some (.ref C)) (Fn : Fun K "first_of" "first_of" s_first_of fa fd) (hmg : mg "first_of" = some (.ref fa)) (hb : Binds K fd ["fraction"] []) (D_sum_list : FnD P w K mg base C exc "sum_list" 14 4 [] (Φ_sum_list 10)) :
    FnD P w K mg base C exc "first_of" 15 1 [] Φ_first_of :=
  fn_def (M := []) (Xl := []) (Pn := []) Fn sc_first_of hmg hb rfl (by decide) (by decide) (by decide) fun cdv A outer s H E hr => by
    have hu := hr.units
    have hu5 := hr.units5
    exact (gss_cons (gs_par 1 2 rfl sc_first_of.nd ge_int (ge_lst ga_nil))
  (gss_cons (gs_while fuelW (passes_of rfl) (gt_cmp (c_eq hu) (ge_var 2) (ge_lst ga_nil)) (gss_cons (gs_set 2 sc_first_of.nd (ge_call D_sum_list (hr.mono (by decide)) (takes_of rfl rfl rfl rfl) (gc_cons (ge_var 0) (gc_cons (ge_var 1) (gc_cons ge_int (gc_cons ge_bl gc_nil))))))
  (gss_one (gs_augAdd 1 sc_first_of.nd ge_int))))
  (gss_one (gs_ret (ge_ix (ge_var 2) ge_int)))))

abbrev s_first_sum : Stmt := top 40
theorem sc_first_sum : FnScope ["fraction"] ["fraction"] (defScope s_first_sum) := ⟨rfl, rfl, rfl, by decide +kernel, rfl, by decide +kernel, by decide +kernel⟩
theorem ok_first_sum {fa : Addr} {fd : FuncData} (T : Txt K mg exc) (CC : CutC K C) (CI : CutI K C) (mgC : mg "Cutter" = some (.ref C)) (Fn : Fun K "first_sum" "first_sum" s_first_sum fa fd) (hmg : mg "first_sum" = some (.ref fa)) (hb : Binds K fd ["fraction"] []) (D_check_fraction : FnD P w K mg base C exc "check_fraction" 3 1 [] Φ_check_fraction) (D_first_of : FnD P w K mg base C exc "first_of" 15 1 [] Φ_first_of) :
    FnD P w K mg base C exc "first_sum" 16 1 [] Φ_first_sum :=
  fn_def (M := []) (Xl := []) (Pn := []) Fn sc_first_sum hmg hb rfl (by decide) (by decide) (by decide) fun cdv A outer s H E hr => by
    have hu := hr.units
    have hu5 := hr.units5
    exact (gss_cons (gs_expr (ge_call D_check_fraction (hr.mono (by decide)) (takes_of rfl rfl rfl rfl) (gc_cons (ge_var 0) gc_nil)))
  (gss_one (gs_ret (ge_call D_first_of (hr.mono (by decide)) (takes_of rfl rfl rfl rfl) (gc_cons (ge_var 0) gc_nil)))))

abbrev s_k13_law : Stmt := top 52
theorem sc_k13_law : FnScope ["_law_script", "_law_town", "_law_own", "_law_way", "_law_c", "_law_part", "_law_here", "_law_after", "_law_best", "_law_longer", "_law_many"] ["_law_script"] (defScope s_k13_law) := ⟨rfl, rfl, rfl, by decide +kernel, rfl, by decide +kernel, by decide +kernel⟩
theorem ok_k13_law {fa : Addr} {fd : FuncData} (T : Txt K mg exc) (CC : CutC K C) (CI : CutI K C) (mgC : mg "Cutter" = some (.ref C)) (Fn : Fun K "law" "law" s_k13_law fa fd) (D_Cutter_cut : MtD P w K mg base C exc "cut" 5 2 [0] Φ_Cutter_cut) (D_Cutter_init : MkX P w K mg base C exc "Cutter" 4 Φ_check_fraction) (D_Cutter_left : MtD P w K mg base C exc "left" 4 1 [0] Φ_Cutter_left) (D_Cutter_len : MtD P w K mg base C exc "__len__" 1 1 [0] Φ_Cutter_len) (D_Cutter_next_part : MtD P w K mg base C exc "next_part" 5 1 [0] Φ_Cutter_next_part) (D_Cutter_parts : MtD P w K mg base C exc "parts" 1 1 [0] Φ_Cutter_parts) (D_Cutter_str : MtD P w K mg base C exc "__str__" 2 1 [0] Φ_Cutter_str) (D_Cutter_undo : MtD P w K mg base C exc "undo" 5 1 [0] Φ_Cutter_undo) (D_first_sum : FnD P w K mg base C exc "first_sum" 16 1 [] Φ_first_sum) (D_format_sum : FnD P w K mg base C exc "format_sum" 3 1 [] Φ_format_sum) (D_greedyF : FnD P w K mg base C exc "greedy" 4 1 [] Φ_greedyF) (D_is_sum_of : FnD P w K mg base C exc "is_sum_of" 4 2 [] Φ_is_sum_of) (D_law_some_share : FnD P w K mg base C exc "_law_some_share" 5 2 [1] (Φ_law_some_share K)) (D_parse_sum : FnD P w K mg base C exc "parse_sum" 2 1 [] Φ_parse_sum) (D_split : FnD P w K mg base C exc "split" 3 2 [] Φ_split) (D_splittable : FnD P w K mg base C exc "splittable" 3 1 [] Φ_splittable) (D_total : FnD P w K mg base C exc "total" 4 1 [] Φ_total) :
    FnOk P w K mg base (L2.CX P w) 17 fa fd ["_law_script"] (spD C exc 1 [] (Φ_k13_law K)) :=
  fn_ok (M := []) (Xl := [1, 4]) (Pn := []) Fn sc_k13_law rfl (by decide) (by decide) (by decide) fun cdv A outer s H E hr => by
    have hu := hr.units
    have hu5 := hr.units5
    exact (gss_cons (gs_town 1 sc_k13_law.nd)
  (gss_cons (gs_set 2 sc_k13_law.nd (ge_call D_law_some_share (hr.mono (by decide)) (takes_of rfl rfl rfl rfl) (gc_cons (ge_var 0) (gc_x 1 gc_nil))))
  (gss_cons (gs_set 3 sc_k13_law.nd (ge_call D_greedyF (hr.mono (by decide)) (takes_of rfl rfl rfl rfl) (gc_cons (ge_var 2) gc_nil)))
  (gss_cons (gs_mkX 4 D_Cutter_init (hr.mono (by decide)) (takes_of rfl rfl rfl rfl) sc_k13_law.nd (ge_var 2))
  (gss_cons (gs_for (passes_of rfl) rfl (gi_seq (ge_thaw (ge_var 3))) (gg_name 5 sc_k13_law.nd) (gss_cons (gs_if (gt_cmp (c_ne hu) (ge_meth0 4 D_Cutter_next_part CC (hr.mono (by decide)) (takes_of rfl rfl rfl rfl)) (ge_var 5)) (gss_one (gs_ret ge_bl)) gss_nil)
  (gss_one (gs_if (gt_cmp c_le (ge_var 5) ge_int) (gss_cons (gs_set 6 sc_k13_law.nd (ge_meth0 4 D_Cutter_left CC (hr.mono (by decide)) (takes_of rfl rfl rfl rfl)))
  (gss_cons (gs_set 7 sc_k13_law.nd (ge_meth 4 D_Cutter_cut CC (hr.mono (by decide)) (takes_of rfl rfl rfl rfl) (gc_cons (ge_var 5) gc_nil)))
  (gss_one (gs_if (gt_cmp c_ge (ge_mul (ge_ix (ge_var 7) ge_int) (ge_ix (ge_var 6) ge_int)) (ge_mul (ge_ix (ge_var 6) ge_int) (ge_ix (ge_var 7) ge_int))) (gss_one (gs_ret ge_bl)) gss_nil)))) (gss_one (gs_ret (ge_and (ge_cmp c_is (ge_call D_is_sum_of (hr.mono (by decide)) (takes_of rfl rfl rfl rfl) (gc_cons (ge_var 2) (gc_cons (ge_thaw (ge_var 3)) gc_nil))) ge_bl) (ge_one (ge_cmp (c_eq hu) (ge_xlen 4 D_Cutter_len (hr.mono (by decide)) T.b_len) (ge_tindex (ge_var 3) (ge_var 5)))))))))))
  (gss_cons (gs_if (gw_or (gt_cmp (c_ne hu) (ge_meth0 4 D_Cutter_left CC (hr.mono (by decide)) (takes_of rfl rfl rfl rfl)) (ge_tup (ga_cons ge_int (ga_cons ge_int ga_nil)))) (gw_or (gt_cmp c_isN (ge_meth0 4 D_Cutter_next_part CC (hr.mono (by decide)) (takes_of rfl rfl rfl rfl)) ge_non) (gw_or (gt_cmp (c_ne hu) (ge_meth0 4 D_Cutter_parts CC (hr.mono (by decide)) (takes_of rfl rfl rfl rfl)) (ge_callTy call_list_of h_listOf (ga_cons (ge_thaw (ge_var 3)) ga_nil) T.b_list (by decide +kernel))) (gw_or1 (gt_cmp (c_ne hu) (ge_xstr 4 D_Cutter_str (hr.mono (by decide)) T.b_str) (ge_call D_format_sum (hr.mono (by decide)) (takes_of rfl rfl rfl rfl) (gc_cons (ge_thaw (ge_var 3)) gc_nil))))))).gt (gss_one (gs_ret ge_bl)) gss_nil)
  (gss_cons (gs_if (gw_or (gt_cmp (c_ne hu) (ge_call D_parse_sum (hr.mono (by decide)) (takes_of rfl rfl rfl rfl) (gc_cons (ge_xstr 4 D_Cutter_str (hr.mono (by decide)) T.b_str) gc_nil)) (ge_thaw (ge_var 3))) (gw_or1 (gt_cmp (c_ne hu) (ge_call D_total (hr.mono (by decide)) (takes_of rfl rfl rfl rfl) (gc_cons (ge_thaw (ge_var 3)) gc_nil)) (ge_var 2)))).gt (gss_one (gs_ret ge_bl)) gss_nil)
  (gss_cons (gs_set 8 sc_k13_law.nd (ge_call D_first_sum (hr.mono (by decide)) (takes_of rfl rfl rfl rfl) (gc_cons (ge_var 2) gc_nil)))
  (gss_cons (gs_if (gw_or (gt_cmp c_gt (ge_callB call_len h_len (ga_cons (ge_var 8) ga_nil) T.b_len (by decide +kernel)) (ge_callB call_len h_len (ga_cons (ge_thaw (ge_var 3)) ga_nil) T.b_len (by decide +kernel))) (gw_or1 (gt_cmp c_isN (ge_call D_is_sum_of (hr.mono (by decide)) (takes_of rfl rfl rfl rfl) (gc_cons (ge_var 2) (gc_cons (ge_var 8) gc_nil))) ge_bl))).gt (gss_one (gs_ret ge_bl)) gss_nil)
  (gss_cons (gs_if (gt_cmp c_le (ge_ix (ge_thaw (ge_var 3)) (ge_neg ge_int)) ge_int) (gss_cons (gs_set 9 sc_k13_law.nd (ge_call D_split (hr.mono (by decide)) (takes_of rfl rfl rfl rfl) (gc_cons (ge_thaw (ge_var 3)) (gc_cons (ge_ix (ge_thaw (ge_var 3)) (ge_neg ge_int)) gc_nil))))
  (gss_one (gs_if (gw_or (gt_cmp (c_ne hu) (ge_call D_total (hr.mono (by decide)) (takes_of rfl rfl rfl rfl) (gc_cons (ge_var 9) gc_nil)) (ge_var 2)) (gw_or (gt_cmp (c_ne hu) (ge_slice (ge_var 9) go_none (go_some (ge_neg ge_int))) (ge_slice (ge_thaw (ge_var 3)) go_none (go_some (ge_neg ge_int)))) (gw_or1 (gt_cmp (c_notIn hu5) (ge_ix (ge_thaw (ge_var 3)) (ge_neg ge_int)) (ge_call D_splittable (hr.mono (by decide)) (takes_of rfl rfl rfl rfl) (gc_cons (ge_thaw (ge_var 3)) gc_nil)))))).gt (gss_one (gs_ret ge_bl)) gss_nil))) gss_nil)
  (gss_cons (gs_for (passes_of rfl) rfl (gi_range3 (ga_cons (ge_sub (ge_callB call_len h_len (ga_cons (ge_thaw (ge_var 3)) ga_nil) T.b_len (by decide +kernel)) ge_int) (ga_cons (ge_neg ge_int) (ga_cons (ge_neg ge_int) ga_nil))) T.b_range) (gg_name 10 sc_k13_law.nd) (gss_cons (gs_expr (ge_meth0 4 D_Cutter_undo CC (hr.mono (by decide)) (takes_of rfl rfl rfl rfl)))
  (gss_one (gs_if (gt_cmp (c_ne hu) (ge_meth0 4 D_Cutter_next_part CC (hr.mono (by decide)) (takes_of rfl rfl rfl rfl)) (ge_ix (ge_thaw (ge_var 3)) (ge_var 10))) (gss_one (gs_ret ge_bl)) gss_nil))))
  (gss_one (gs_ret (ge_and (ge_cmp (c_eq hu) (ge_meth0 4 D_Cutter_left CC (hr.mono (by decide)) (takes_of rfl rfl rfl rfl)) (ge_var 2)) (ge_one (ge_cmp (c_eq hu) (ge_xlen 4 D_Cutter_len (hr.mono (by decide)) T.b_len) ge_int))))))))))))))))
end
theorem all_mk {P : Program} {w : World} {K : PySem.W.Frag} {h : Heap} {mg : Str → Option Value} {fa : Addr} (X : K.In h) (G : h.Ns mainGlobals mg) (hfa : mg "law" = some (.ref fa))
    {C_Cutter : Addr}
    {f0 : Addr} {od0 an0 : Option Addr} {sl0 : Array (Option Value)} {oc0 kV0 dc0 pm0 cd0 ct0 : Value}
    {f1 : Addr} {od1 an1 : Option Addr} {sl1 : Array (Option Value)} {oc1 kV1 dc1 pm1 cd1 ct1 : Value}
    {f2 : Addr} {od2 an2 : Option Addr} {sl2 : Array (Option Value)} {oc2 kV2 dc2 pm2 cd2 ct2 : Value}
    {f3 : Addr} {od3 an3 : Option Addr} {sl3 : Array (Option Value)} {oc3 kV3 dc3 pm3 cd3 ct3 : Value}
    {f4 : Addr} {od4 an4 : Option Addr} {sl4 : Array (Option Value)} {oc4 kV4 dc4 pm4 cd4 ct4 : Value}
    {f5 : Addr} {od5 an5 : Option Addr} {sl5 : Array (Option Value)} {oc5 kV5 dc5 pm5 cd5 ct5 : Value}
    {f6 : Addr} {od6 an6 : Option Addr} {sl6 : Array (Option Value)} {oc6 kV6 dc6 pm6 cd6 ct6 : Value}
    {f7 : Addr} {od7 an7 : Option Addr} {sl7 : Array (Option Value)} {oc7 kV7 dc7 pm7 cd7 ct7 : Value}
    {f8 : Addr} {od8 an8 : Option Addr} {sl8 : Array (Option Value)} {oc8 kV8 dc8 pm8 cd8 ct8 : Value}
    {f9 : Addr} {od9 an9 : Option Addr} {sl9 : Array (Option Value)} {oc9 kV9 dc9 pm9 cd9 ct9 : Value}
    {f10 : Addr} {od10 an10 : Option Addr} {sl10 : Array (Option Value)} {oc10 kV10 dc10 pm10 cd10 ct10 : Value}
    {f11 : Addr} {od11 an11 : Option Addr} {sl11 : Array (Option Value)} {oc11 kV11 dc11 pm11 cd11 ct11 : Value}
    {f12 : Addr} {od12 an12 : Option Addr} {sl12 : Array (Option Value)} {oc12 kV12 dc12 pm12 cd12 ct12 : Value}
    {f13 : Addr} {od13 an13 : Option Addr} {sl13 : Array (Option Value)} {oc13 kV13 dc13 pm13 cd13 ct13 : Value}
    {f14 : Addr} {od14 an14 : Option Addr} {sl14 : Array (Option Value)} {oc14 kV14 dc14 pm14 cd14 ct14 : Value}
    {f15 : Addr} {od15 an15 : Option Addr} {sl15 : Array (Option Value)} {oc15 kV15 dc15 pm15 cd15 ct15 : Value}
    {f16 : Addr} {od16 an16 : Option Addr} {sl16 : Array (Option Value)} {oc16 kV16 dc16 pm16 cd16 ct16 : Value}
    {f17 : Addr} {od17 an17 : Option Addr} {sl17 : Array (Option Value)} {oc17 kV17 dc17 pm17 cd17 ct17 : Value}
    {f18 : Addr} {od18 an18 : Option Addr} {sl18 : Array (Option Value)} {oc18 kV18 dc18 pm18 cd18 ct18 : Value}
    {f19 : Addr} {od19 an19 : Option Addr} {sl19 : Array (Option Value)} {oc19 kV19 dc19 pm19 cd19 ct19 : Value}
    {f20 : Addr} {od20 an20 : Option Addr} {sl20 : Array (Option Value)} {oc20 kV20 dc20 pm20 cd20 ct20 : Value}
    {f21 : Addr} {od21 an21 : Option Addr} {sl21 : Array (Option Value)} {oc21 kV21 dc21 pm21 cd21 ct21 : Value}
    {f22 : Addr} {od22 an22 : Option Addr} {sl22 : Array (Option Value)} {oc22 kV22 dc22 pm22 cd22 ct22 : Value}
    {f23 : Addr} {od23 an23 : Option Addr} {sl23 : Array (Option Value)} {oc23 kV23 dc23 pm23 cd23 ct23 : Value}
    {f24 : Addr} {od24 an24 : Option Addr} {sl24 : Array (Option Value)} {oc24 kV24 dc24 pm24 cd24 ct24 : Value}
    {f25 : Addr} {od25 an25 : Option Addr} {sl25 : Array (Option Value)} {oc25 kV25 dc25 pm25 cd25 ct25 : Value}
    {f26 : Addr} {od26 an26 : Option Addr} {sl26 : Array (Option Value)} {oc26 kV26 dc26 pm26 cd26 ct26 : Value}
    {f27 : Addr} {od27 an27 : Option Addr} {sl27 : Array (Option Value)} {oc27 kV27 dc27 pm27 cd27 ct27 : Value}
    {f28 : Addr} {od28 an28 : Option Addr} {sl28 : Array (Option Value)} {oc28 kV28 dc28 pm28 cd28 ct28 : Value}
    {f29 : Addr} {od29 an29 : Option Addr} {sl29 : Array (Option Value)} {oc29 kV29 dc29 pm29 cd29 ct29 : Value}
    {f30 : Addr} {od30 an30 : Option Addr} {sl30 : Array (Option Value)} {oc30 kV30 dc30 pm30 cd30 ct30 : Value}
    {f31 : Addr} {od31 an31 : Option Addr} {sl31 : Array (Option Value)} {oc31 kV31 dc31 pm31 cd31 ct31 : Value}
    {f32 : Addr} {od32 an32 : Option Addr} {sl32 : Array (Option Value)} {oc32 kV32 dc32 pm32 cd32 ct32 : Value}
    {f33 : Addr} {od33 an33 : Option Addr} {sl33 : Array (Option Value)} {oc33 kV33 dc33 pm33 cd33 ct33 : Value}
    {f34 : Addr} {od34 an34 : Option Addr} {sl34 : Array (Option Value)} {oc34 kV34 dc34 pm34 cd34 ct34 : Value}
    {f35 : Addr} {od35 an35 : Option Addr} {sl35 : Array (Option Value)} {oc35 kV35 dc35 pm35 cd35 ct35 : Value}
    {f36 : Addr} {od36 an36 : Option Addr} {sl36 : Array (Option Value)} {oc36 kV36 dc36 pm36 cd36 ct36 : Value}
    {f37 : Addr} {od37 an37 : Option Addr} {sl37 : Array (Option Value)} {oc37 kV37 dc37 pm37 cd37 ct37 : Value}
    {t_DIGITS : Tok}
    {t_MOST : Tok}
    {C_CannotSplit : Addr}
    {C_InvalidFraction : Addr}
    {C_InvalidNumber : Addr}
    {C_InvalidSum : Addr}
    {C_NotThere : Addr}
    {C_NothingToUndo : Addr}
    {C_ParseError : Addr}
    {C_TooGreat : Addr}
    {C_Used : Addr}
    (ca : PySem.W.nsIn K mainGlobals "Cutter" = some (some (.ref C_Cutter)))
    (cp : PySem.W.keepIn K (.ref C_Cutter) = true)
    (cm : PySem.W.makesIn K C_Cutter = true)
    (c_1 : PySem.W.plainGet K C_Cutter Str.empty = true)
    (c_2 : PySem.W.hasDictIn K C_Cutter = true)
    (c_3 : PySem.W.plainOver K C_Cutter = true)
    (c_4 : PySem.W.findIn K (.ref C_Cutter) "__setattr__" = some (some (.builtin "object.__setattr__")))
    (c_5 : PySem.W.findIn K (.ref C_Cutter) "fraction" = some none)
    (c_6 : PySem.W.findIn K (.ref C_Cutter) "gone" = some none)
    (c_7 : PySem.W.findIn K (.ref C_Cutter) "kept" = some none)
    (i_1 : PySem.W.findIn K (.ref C_Cutter) "__class__" = some (some (.builtin "object.__class__")))
    (i_2 : PySem.W.specialIn K (.builtin "object.__class__") "__get__" = some (some (.builtin "getset_descriptor.__get__")))
    (i_3 : PySem.W.takesIn K (.builtin "object.__class__") = some true)
    (i_4 : PySem.W.mroIn K C_Cutter (.type "object") = some true)
    (j0 : PySem.W.findIn K (.ref C_Cutter) "parts" = some (some (.ref f0))) (i0 : PySem.W.isFn K (.ref f0) = true) (l0 : K.lookup f0 = some ⟨oc0, od0, .func (PySem.W.fnOf "parts" "Cutter.parts" (defArgs s_Cutter_parts) (defBody s_Cutter_parts) (defScope s_Cutter_parts) .none kV0 dc0 pm0 an0 cd0 ct0), sl0⟩) (c0 : PySem.W.codeIn K cd0 "Cutter.parts" = true) (k0 : PySem.W.keepIn K (.ref f0) = true)
    (j1 : PySem.W.findIn K (.ref C_Cutter) "__len__" = some (some (.ref f1))) (i1 : PySem.W.isFn K (.ref f1) = true) (l1 : K.lookup f1 = some ⟨oc1, od1, .func (PySem.W.fnOf "__len__" "Cutter.__len__" (defArgs s_Cutter_len) (defBody s_Cutter_len) (defScope s_Cutter_len) .none kV1 dc1 pm1 an1 cd1 ct1), sl1⟩) (c1 : PySem.W.codeIn K cd1 "Cutter.__len__" = true) (k1 : PySem.W.keepIn K (.ref f1) = true)
    (a2 : PySem.W.nsIn K mainGlobals "is_integer" = some (some (.ref f2))) (l2 : K.lookup f2 = some ⟨oc2, od2, .func (PySem.W.fnOf "is_integer" "is_integer" (defArgs s_is_integer) (defBody s_is_integer) (defScope s_is_integer) .none kV2 dc2 pm2 an2 cd2 ct2), sl2⟩) (c2 : PySem.W.codeIn K cd2 "is_integer" = true) (k2 : PySem.W.keepIn K (.ref f2) = true)
    (a3 : PySem.W.nsIn K mainGlobals "divisor_of" = some (some (.ref f3))) (l3 : K.lookup f3 = some ⟨oc3, od3, .func (PySem.W.fnOf "divisor_of" "divisor_of" (defArgs s_divisor_of) (defBody s_divisor_of) (defScope s_divisor_of) .none kV3 dc3 pm3 an3 cd3 ct3), sl3⟩) (c3 : PySem.W.codeIn K cd3 "divisor_of" = true) (k3 : PySem.W.keepIn K (.ref f3) = true)
    (a4 : PySem.W.nsIn K mainGlobals "is_sum" = some (some (.ref f4))) (l4 : K.lookup f4 = some ⟨oc4, od4, .func (PySem.W.fnOf "is_sum" "is_sum" (defArgs s_is_sum) (defBody s_is_sum) (defScope s_is_sum) .none kV4 dc4 pm4 an4 cd4 ct4), sl4⟩) (c4 : PySem.W.codeIn K cd4 "is_sum" = true) (k4 : PySem.W.keepIn K (.ref f4) = true)
    (a5 : PySem.W.nsIn K mainGlobals "text_of" = some (some (.ref f5))) (l5 : K.lookup f5 = some ⟨oc5, od5, .func (PySem.W.fnOf "text_of" "text_of" (defArgs s_text_of) (defBody s_text_of) (defScope s_text_of) .none kV5 dc5 pm5 an5 cd5 ct5), sl5⟩) (c5 : PySem.W.codeIn K cd5 "text_of" = true) (k5 : PySem.W.keepIn K (.ref f5) = true)
    (a6 : PySem.W.nsIn K mainGlobals "greatest_in" = some (some (.ref f6))) (l6 : K.lookup f6 = some ⟨oc6, od6, .func (PySem.W.fnOf "greatest_in" "greatest_in" (defArgs s_greatest_in) (defBody s_greatest_in) (defScope s_greatest_in) .none kV6 dc6 pm6 an6 cd6 ct6), sl6⟩) (c6 : PySem.W.codeIn K cd6 "greatest_in" = true) (k6 : PySem.W.keepIn K (.ref f6) = true)
    (a7 : PySem.W.nsIn K mainGlobals "pair_list" = some (some (.ref f7))) (l7 : K.lookup f7 = some ⟨oc7, od7, .func (PySem.W.fnOf "pair_list" "pair_list" (defArgs s_pair_list) (defBody s_pair_list) (defScope s_pair_list) .none kV7 dc7 pm7 an7 cd7 ct7), sl7⟩) (c7 : PySem.W.codeIn K cd7 "pair_list" = true) (k7 : PySem.W.keepIn K (.ref f7) = true)
    (a8 : PySem.W.nsIn K mainGlobals "can_split" = some (some (.ref f8))) (l8 : K.lookup f8 = some ⟨oc8, od8, .func (PySem.W.fnOf "can_split" "can_split" (defArgs s_can_split) (defBody s_can_split) (defScope s_can_split) .none kV8 dc8 pm8 an8 cd8 ct8), sl8⟩) (c8 : PySem.W.codeIn K cd8 "can_split" = true) (k8 : PySem.W.keepIn K (.ref f8) = true)
    (a9 : PySem.W.nsIn K mainGlobals "_law_cell_at" = some (some (.ref f9))) (l9 : K.lookup f9 = some ⟨oc9, od9, .func (PySem.W.fnOf "_law_cell_at" "_law_cell_at" (defArgs s_law_cell_at) (defBody s_law_cell_at) (defScope s_law_cell_at) .none kV9 dc9 pm9 an9 cd9 ct9), sl9⟩) (c9 : PySem.W.codeIn K cd9 "_law_cell_at" = true) (k9 : PySem.W.keepIn K (.ref f9) = true)
    (a10 : PySem.W.nsIn K mainGlobals "_law_shared" = some (some (.ref f10))) (l10 : K.lookup f10 = some ⟨oc10, od10, .func (PySem.W.fnOf "_law_shared" "_law_shared" (defArgs s_law_shared) (defBody s_law_shared) (defScope s_law_shared) .none kV10 dc10 pm10 an10 cd10 ct10), sl10⟩) (c10 : PySem.W.codeIn K cd10 "_law_shared" = true) (k10 : PySem.W.keepIn K (.ref f10) = true)
    (j11 : PySem.W.findIn K (.ref C_Cutter) "__str__" = some (some (.ref f11))) (i11 : PySem.W.isFn K (.ref f11) = true) (l11 : K.lookup f11 = some ⟨oc11, od11, .func (PySem.W.fnOf "__str__" "Cutter.__str__" (defArgs s_Cutter_str) (defBody s_Cutter_str) (defScope s_Cutter_str) .none kV11 dc11 pm11 an11 cd11 ct11), sl11⟩) (c11 : PySem.W.codeIn K cd11 "Cutter.__str__" = true) (k11 : PySem.W.keepIn K (.ref f11) = true)
    (a12 : PySem.W.nsIn K mainGlobals "is_fraction" = some (some (.ref f12))) (l12 : K.lookup f12 = some ⟨oc12, od12, .func (PySem.W.fnOf "is_fraction" "is_fraction" (defArgs s_is_fraction) (defBody s_is_fraction) (defScope s_is_fraction) .none kV12 dc12 pm12 an12 cd12 ct12), sl12⟩) (c12 : PySem.W.codeIn K cd12 "is_fraction" = true) (k12 : PySem.W.keepIn K (.ref f12) = true)
    (a13 : PySem.W.nsIn K mainGlobals "check_sum" = some (some (.ref f13))) (l13 : K.lookup f13 = some ⟨oc13, od13, .func (PySem.W.fnOf "check_sum" "check_sum" (defArgs s_check_sum) (defBody s_check_sum) (defScope s_check_sum) .none kV13 dc13 pm13 an13 cd13 ct13), sl13⟩) (c13 : PySem.W.codeIn K cd13 "check_sum" = true) (k13 : PySem.W.keepIn K (.ref f13) = true)
    (a14 : PySem.W.nsIn K mainGlobals "lowest" = some (some (.ref f14))) (l14 : K.lookup f14 = some ⟨oc14, od14, .func (PySem.W.fnOf "lowest" "lowest" (defArgs s_lowest) (defBody s_lowest) (defScope s_lowest) .none kV14 dc14 pm14 an14 cd14 ct14), sl14⟩) (c14 : PySem.W.codeIn K cd14 "lowest" = true) (k14 : PySem.W.keepIn K (.ref f14) = true)
    (a15 : PySem.W.nsIn K mainGlobals "parse_sum" = some (some (.ref f15))) (l15 : K.lookup f15 = some ⟨oc15, od15, .func (PySem.W.fnOf "parse_sum" "parse_sum" (defArgs s_parse_sum) (defBody s_parse_sum) (defScope s_parse_sum) .none kV15 dc15 pm15 an15 cd15 ct15), sl15⟩) (c15 : PySem.W.codeIn K cd15 "parse_sum" = true) (k15 : PySem.W.keepIn K (.ref f15) = true)
    (a16 : PySem.W.nsIn K mainGlobals "_law_mixed" = some (some (.ref f16))) (l16 : K.lookup f16 = some ⟨oc16, od16, .func (PySem.W.fnOf "_law_mixed" "_law_mixed" (defArgs s_law_mixed) (defBody s_law_mixed) (defScope s_law_mixed) .none kV16 dc16 pm16 an16 cd16 ct16), sl16⟩) (c16 : PySem.W.codeIn K cd16 "_law_mixed" = true) (k16 : PySem.W.keepIn K (.ref f16) = true)
    (a17 : PySem.W.nsIn K mainGlobals "check_fraction" = some (some (.ref f17))) (l17 : K.lookup f17 = some ⟨oc17, od17, .func (PySem.W.fnOf "check_fraction" "check_fraction" (defArgs s_check_fraction) (defBody s_check_fraction) (defScope s_check_fraction) .none kV17 dc17 pm17 an17 cd17 ct17), sl17⟩) (c17 : PySem.W.codeIn K cd17 "check_fraction" = true) (k17 : PySem.W.keepIn K (.ref f17) = true)
    (a18 : PySem.W.nsIn K mainGlobals "less_part" = some (some (.ref f18))) (l18 : K.lookup f18 = some ⟨oc18, od18, .func (PySem.W.fnOf "less_part" "less_part" (defArgs s_less_part) (defBody s_less_part) (defScope s_less_part) .none kV18 dc18 pm18 an18 cd18 ct18), sl18⟩) (c18 : PySem.W.codeIn K cd18 "less_part" = true) (k18 : PySem.W.keepIn K (.ref f18) = true)
    (a19 : PySem.W.nsIn K mainGlobals "total_of" = some (some (.ref f19))) (l19 : K.lookup f19 = some ⟨oc19, od19, .func (PySem.W.fnOf "total_of" "total_of" (defArgs s_total_of) (defBody s_total_of) (defScope s_total_of) .none kV19 dc19 pm19 an19 cd19 ct19), sl19⟩) (c19 : PySem.W.codeIn K cd19 "total_of" = true) (k19 : PySem.W.keepIn K (.ref f19) = true)
    (a20 : PySem.W.nsIn K mainGlobals "format_sum" = some (some (.ref f20))) (l20 : K.lookup f20 = some ⟨oc20, od20, .func (PySem.W.fnOf "format_sum" "format_sum" (defArgs s_format_sum) (defBody s_format_sum) (defScope s_format_sum) .none kV20 dc20 pm20 an20 cd20 ct20), sl20⟩) (c20 : PySem.W.codeIn K cd20 "format_sum" = true) (k20 : PySem.W.keepIn K (.ref f20) = true)
    (a21 : PySem.W.nsIn K mainGlobals "split" = some (some (.ref f21))) (l21 : K.lookup f21 = some ⟨oc21, od21, .func (PySem.W.fnOf "split" "split" (defArgs s_split) (defBody s_split) (defScope s_split) .none kV21 dc21 pm21 an21 cd21 ct21), sl21⟩) (c21 : PySem.W.codeIn K cd21 "split" = true) (k21 : PySem.W.keepIn K (.ref f21) = true)
    (a22 : PySem.W.nsIn K mainGlobals "splittable" = some (some (.ref f22))) (l22 : K.lookup f22 = some ⟨oc22, od22, .func (PySem.W.fnOf "splittable" "splittable" (defArgs s_splittable) (defBody s_splittable) (defScope s_splittable) .none kV22 dc22 pm22 an22 cd22 ct22), sl22⟩) (c22 : PySem.W.codeIn K cd22 "splittable" = true) (k22 : PySem.W.keepIn K (.ref f22) = true)
    (a23 : PySem.W.nsIn K mainGlobals "_law_draw" = some (some (.ref f23))) (l23 : K.lookup f23 = some ⟨oc23, od23, .func (PySem.W.fnOf "_law_draw" "_law_draw" (defArgs s_law_draw) (defBody s_law_draw) (defScope s_law_draw) .none kV23 dc23 pm23 an23 cd23 ct23), sl23⟩) (c23 : PySem.W.codeIn K cd23 "_law_draw" = true) (k23 : PySem.W.keepIn K (.ref f23) = true)
    (j24 : PySem.W.findIn K (.ref C_Cutter) "__init__" = some (some (.ref f24))) (i24 : PySem.W.isFn K (.ref f24) = true) (l24 : K.lookup f24 = some ⟨oc24, od24, .func (PySem.W.fnOf "__init__" "Cutter.__init__" (defArgs s_Cutter_init) (defBody s_Cutter_init) (defScope s_Cutter_init) .none kV24 dc24 pm24 an24 cd24 ct24), sl24⟩) (c24 : PySem.W.codeIn K cd24 "Cutter.__init__" = true) (k24 : PySem.W.keepIn K (.ref f24) = true)
    (j25 : PySem.W.findIn K (.ref C_Cutter) "left" = some (some (.ref f25))) (i25 : PySem.W.isFn K (.ref f25) = true) (l25 : K.lookup f25 = some ⟨oc25, od25, .func (PySem.W.fnOf "left" "Cutter.left" (defArgs s_Cutter_left) (defBody s_Cutter_left) (defScope s_Cutter_left) .none kV25 dc25 pm25 an25 cd25 ct25), sl25⟩) (c25 : PySem.W.codeIn K cd25 "Cutter.left" = true) (k25 : PySem.W.keepIn K (.ref f25) = true)
    (a26 : PySem.W.nsIn K mainGlobals "total" = some (some (.ref f26))) (l26 : K.lookup f26 = some ⟨oc26, od26, .func (PySem.W.fnOf "total" "total" (defArgs s_total) (defBody s_total) (defScope s_total) .none kV26 dc26 pm26 an26 cd26 ct26), sl26⟩) (c26 : PySem.W.codeIn K cd26 "total" = true) (k26 : PySem.W.keepIn K (.ref f26) = true)
    (a27 : PySem.W.nsIn K mainGlobals "is_sum_of" = some (some (.ref f27))) (l27 : K.lookup f27 = some ⟨oc27, od27, .func (PySem.W.fnOf "is_sum_of" "is_sum_of" (defArgs s_is_sum_of) (defBody s_is_sum_of) (defScope s_is_sum_of) .none kV27 dc27 pm27 an27 cd27 ct27), sl27⟩) (c27 : PySem.W.codeIn K cd27 "is_sum_of" = true) (k27 : PySem.W.keepIn K (.ref f27) = true)
    (a28 : PySem.W.nsIn K mainGlobals "greedy" = some (some (.ref f28))) (l28 : K.lookup f28 = some ⟨oc28, od28, .func (PySem.W.fnOf "greedy" "greedy" (defArgs s_greedyF) (defBody s_greedyF) (defScope s_greedyF) .none kV28 dc28 pm28 an28 cd28 ct28), sl28⟩) (c28 : PySem.W.codeIn K cd28 "greedy" = true) (k28 : PySem.W.keepIn K (.ref f28) = true)
    (a29 : PySem.W.nsIn K mainGlobals "_law_pick" = some (some (.ref f29))) (l29 : K.lookup f29 = some ⟨oc29, od29, .func (PySem.W.fnOf "_law_pick" "_law_pick" (defArgs s_law_pick) (defBody s_law_pick) (defScope s_law_pick) .none kV29 dc29 pm29 an29 cd29 ct29), sl29⟩) (c29 : PySem.W.codeIn K cd29 "_law_pick" = true) (k29 : PySem.W.keepIn K (.ref f29) = true)
    (j30 : PySem.W.findIn K (.ref C_Cutter) "cut" = some (some (.ref f30))) (i30 : PySem.W.isFn K (.ref f30) = true) (l30 : K.lookup f30 = some ⟨oc30, od30, .func (PySem.W.fnOf "cut" "Cutter.cut" (defArgs s_Cutter_cut) (defBody s_Cutter_cut) (defScope s_Cutter_cut) .none kV30 dc30 pm30 an30 cd30 ct30), sl30⟩) (c30 : PySem.W.codeIn K cd30 "Cutter.cut" = true) (k30 : PySem.W.keepIn K (.ref f30) = true)
    (j31 : PySem.W.findIn K (.ref C_Cutter) "next_part" = some (some (.ref f31))) (i31 : PySem.W.isFn K (.ref f31) = true) (l31 : K.lookup f31 = some ⟨oc31, od31, .func (PySem.W.fnOf "next_part" "Cutter.next_part" (defArgs s_Cutter_next_part) (defBody s_Cutter_next_part) (defScope s_Cutter_next_part) .none kV31 dc31 pm31 an31 cd31 ct31), sl31⟩) (c31 : PySem.W.codeIn K cd31 "Cutter.next_part" = true) (k31 : PySem.W.keepIn K (.ref f31) = true)
    (j32 : PySem.W.findIn K (.ref C_Cutter) "undo" = some (some (.ref f32))) (i32 : PySem.W.isFn K (.ref f32) = true) (l32 : K.lookup f32 = some ⟨oc32, od32, .func (PySem.W.fnOf "undo" "Cutter.undo" (defArgs s_Cutter_undo) (defBody s_Cutter_undo) (defScope s_Cutter_undo) .none kV32 dc32 pm32 an32 cd32 ct32), sl32⟩) (c32 : PySem.W.codeIn K cd32 "Cutter.undo" = true) (k32 : PySem.W.keepIn K (.ref f32) = true)
    (a33 : PySem.W.nsIn K mainGlobals "_law_some_share" = some (some (.ref f33))) (l33 : K.lookup f33 = some ⟨oc33, od33, .func (PySem.W.fnOf "_law_some_share" "_law_some_share" (defArgs s_law_some_share) (defBody s_law_some_share) (defScope s_law_some_share) .none kV33 dc33 pm33 an33 cd33 ct33), sl33⟩) (c33 : PySem.W.codeIn K cd33 "_law_some_share" = true) (k33 : PySem.W.keepIn K (.ref f33) = true)
    (a34 : PySem.W.nsIn K mainGlobals "sum_list" = some (some (.ref f34))) (l34 : K.lookup f34 = some ⟨oc34, od34, .func (PySem.W.fnOf "sum_list" "sum_list" (defArgs s_sum_list) (defBody s_sum_list) (defScope s_sum_list) .none kV34 dc34 pm34 an34 cd34 ct34), sl34⟩) (c34 : PySem.W.codeIn K cd34 "sum_list" = true) (k34 : PySem.W.keepIn K (.ref f34) = true)
    (a35 : PySem.W.nsIn K mainGlobals "first_of" = some (some (.ref f35))) (l35 : K.lookup f35 = some ⟨oc35, od35, .func (PySem.W.fnOf "first_of" "first_of" (defArgs s_first_of) (defBody s_first_of) (defScope s_first_of) .none kV35 dc35 pm35 an35 cd35 ct35), sl35⟩) (c35 : PySem.W.codeIn K cd35 "first_of" = true) (k35 : PySem.W.keepIn K (.ref f35) = true)
    (a36 : PySem.W.nsIn K mainGlobals "first_sum" = some (some (.ref f36))) (l36 : K.lookup f36 = some ⟨oc36, od36, .func (PySem.W.fnOf "first_sum" "first_sum" (defArgs s_first_sum) (defBody s_first_sum) (defScope s_first_sum) .none kV36 dc36 pm36 an36 cd36 ct36), sl36⟩) (c36 : PySem.W.codeIn K cd36 "first_sum" = true) (k36 : PySem.W.keepIn K (.ref f36) = true)
    (a37 : PySem.W.nsIn K mainGlobals "law" = some (some (.ref f37))) (l37 : K.lookup f37 = some ⟨oc37, od37, .func (PySem.W.fnOf "law" "law" (defArgs s_k13_law) (defBody s_k13_law) (defScope s_k13_law) .none kV37 dc37 pm37 an37 cd37 ct37), sl37⟩) (c37 : PySem.W.codeIn K cd37 "law" = true) (k37 : PySem.W.keepIn K (.ref f37) = true)
    (z_all : PySem.W.nsIn K mainGlobals "all" = some none)
    (z_bool : PySem.W.nsIn K mainGlobals "bool" = some none)
    (z_int : PySem.W.nsIn K mainGlobals "int" = some none)
    (z_isinstance : PySem.W.nsIn K mainGlobals "isinstance" = some none)
    (z_len : PySem.W.nsIn K mainGlobals "len" = some none)
    (z_list : PySem.W.nsIn K mainGlobals "list" = some none)
    (z_max : PySem.W.nsIn K mainGlobals "max" = some none)
    (z_min : PySem.W.nsIn K mainGlobals "min" = some none)
    (z_range : PySem.W.nsIn K mainGlobals "range" = some none)
    (z_sorted : PySem.W.nsIn K mainGlobals "sorted" = some none)
    (z_str : PySem.W.nsIn K mainGlobals "str" = some none)
    (z_tuple : PySem.W.nsIn K mainGlobals "tuple" = some none)
    (z_zip : PySem.W.nsIn K mainGlobals "zip" = some none)
    (y_DIGITS : PySem.W.nsIn K mainGlobals "DIGITS" = some (some (.str "0123456789" t_DIGITS)))
    (y_MOST : PySem.W.nsIn K mainGlobals "MOST" = some (some (.int 30 t_MOST)))
    (e1_CannotSplit : PySem.W.nsIn K mainGlobals "CannotSplit" = some (some (.ref C_CannotSplit))) (e2_CannotSplit : PySem.W.excIn K C_CannotSplit [.type "ValueError", .type "Exception", .type "BaseException", .type "object"] "ValueError.__new__" = true) (e3_CannotSplit : PySem.W.keepIn K (.ref C_CannotSplit) = true) (e4_CannotSplit : PySem.W.subIn K (.ref C_CannotSplit) (.type "BaseException") = some true) (e5_CannotSplit : PySem.W.typeIn K (.ref C_CannotSplit) = some (.type "type"))
    (e1_InvalidFraction : PySem.W.nsIn K mainGlobals "InvalidFraction" = some (some (.ref C_InvalidFraction))) (e2_InvalidFraction : PySem.W.excIn K C_InvalidFraction [.type "ValueError", .type "Exception", .type "BaseException", .type "object"] "ValueError.__new__" = true) (e3_InvalidFraction : PySem.W.keepIn K (.ref C_InvalidFraction) = true) (e4_InvalidFraction : PySem.W.subIn K (.ref C_InvalidFraction) (.type "BaseException") = some true) (e5_InvalidFraction : PySem.W.typeIn K (.ref C_InvalidFraction) = some (.type "type"))
    (e1_InvalidNumber : PySem.W.nsIn K mainGlobals "InvalidNumber" = some (some (.ref C_InvalidNumber))) (e2_InvalidNumber : PySem.W.excIn K C_InvalidNumber [.type "ValueError", .type "Exception", .type "BaseException", .type "object"] "ValueError.__new__" = true) (e3_InvalidNumber : PySem.W.keepIn K (.ref C_InvalidNumber) = true) (e4_InvalidNumber : PySem.W.subIn K (.ref C_InvalidNumber) (.type "BaseException") = some true) (e5_InvalidNumber : PySem.W.typeIn K (.ref C_InvalidNumber) = some (.type "type"))
    (e1_InvalidSum : PySem.W.nsIn K mainGlobals "InvalidSum" = some (some (.ref C_InvalidSum))) (e2_InvalidSum : PySem.W.excIn K C_InvalidSum [.type "ValueError", .type "Exception", .type "BaseException", .type "object"] "ValueError.__new__" = true) (e3_InvalidSum : PySem.W.keepIn K (.ref C_InvalidSum) = true) (e4_InvalidSum : PySem.W.subIn K (.ref C_InvalidSum) (.type "BaseException") = some true) (e5_InvalidSum : PySem.W.typeIn K (.ref C_InvalidSum) = some (.type "type"))
    (e1_NotThere : PySem.W.nsIn K mainGlobals "NotThere" = some (some (.ref C_NotThere))) (e2_NotThere : PySem.W.excIn K C_NotThere [.type "ValueError", .type "Exception", .type "BaseException", .type "object"] "ValueError.__new__" = true) (e3_NotThere : PySem.W.keepIn K (.ref C_NotThere) = true) (e4_NotThere : PySem.W.subIn K (.ref C_NotThere) (.type "BaseException") = some true) (e5_NotThere : PySem.W.typeIn K (.ref C_NotThere) = some (.type "type"))
    (e1_NothingToUndo : PySem.W.nsIn K mainGlobals "NothingToUndo" = some (some (.ref C_NothingToUndo))) (e2_NothingToUndo : PySem.W.excIn K C_NothingToUndo [.type "ValueError", .type "Exception", .type "BaseException", .type "object"] "ValueError.__new__" = true) (e3_NothingToUndo : PySem.W.keepIn K (.ref C_NothingToUndo) = true) (e4_NothingToUndo : PySem.W.subIn K (.ref C_NothingToUndo) (.type "BaseException") = some true) (e5_NothingToUndo : PySem.W.typeIn K (.ref C_NothingToUndo) = some (.type "type"))
    (e1_ParseError : PySem.W.nsIn K mainGlobals "ParseError" = some (some (.ref C_ParseError))) (e2_ParseError : PySem.W.excIn K C_ParseError [.type "ValueError", .type "Exception", .type "BaseException", .type "object"] "ValueError.__new__" = true) (e3_ParseError : PySem.W.keepIn K (.ref C_ParseError) = true) (e4_ParseError : PySem.W.subIn K (.ref C_ParseError) (.type "BaseException") = some true) (e5_ParseError : PySem.W.typeIn K (.ref C_ParseError) = some (.type "type"))
    (e1_TooGreat : PySem.W.nsIn K mainGlobals "TooGreat" = some (some (.ref C_TooGreat))) (e2_TooGreat : PySem.W.excIn K C_TooGreat [.type "ValueError", .type "Exception", .type "BaseException", .type "object"] "ValueError.__new__" = true) (e3_TooGreat : PySem.W.keepIn K (.ref C_TooGreat) = true) (e4_TooGreat : PySem.W.subIn K (.ref C_TooGreat) (.type "BaseException") = some true) (e5_TooGreat : PySem.W.typeIn K (.ref C_TooGreat) = some (.type "type"))
    (e1_Used : PySem.W.nsIn K mainGlobals "Used" = some (some (.ref C_Used))) (e2_Used : PySem.W.excIn K C_Used [.type "ValueError", .type "Exception", .type "BaseException", .type "object"] "ValueError.__new__" = true) (e3_Used : PySem.W.keepIn K (.ref C_Used) = true) (e4_Used : PySem.W.subIn K (.ref C_Used) (.type "BaseException") = some true) (e5_Used : PySem.W.typeIn K (.ref C_Used) = some (.type "type")) :
    ∃ fd : FuncData, (∀ (s : Shared) (v : Value), BindsTo s fd ⟨[v], []⟩ [("_law_script", v)]) ∧ ∀ base : Heap, K.In base → base.Ns mainGlobals mg → FnOk P w K mg base (L2.CX P w) 17 fa fd ["_law_script"] (spLaw K) := by
  have e := hfa.symm.trans (PySem.W.mg_of X G a37)
  cases e
  have T : Txt K mg (fun n => ([C_InvalidFraction, C_InvalidSum, C_InvalidNumber, C_NotThere, C_CannotSplit, C_TooGreat, C_Used, C_NothingToUndo, C_ParseError] : List Addr).getD n 0) := { triv := trivial, b_all := PySem.W.mg_none_of X G z_all, b_bool := PySem.W.mg_none_of X G z_bool, b_int := PySem.W.mg_none_of X G z_int, b_isinstance := PySem.W.mg_none_of X G z_isinstance, b_len := PySem.W.mg_none_of X G z_len, b_list := PySem.W.mg_none_of X G z_list, b_max := PySem.W.mg_none_of X G z_max, b_min := PySem.W.mg_none_of X G z_min, b_range := PySem.W.mg_none_of X G z_range, b_sorted := PySem.W.mg_none_of X G z_sorted, b_str := PySem.W.mg_none_of X G z_str, b_tuple := PySem.W.mg_none_of X G z_tuple, b_zip := PySem.W.mg_none_of X G z_zip, g_DIGITS := ⟨_, PySem.W.mg_of X G y_DIGITS⟩, g_MOST := ⟨_, PySem.W.mg_of X G y_MOST⟩, e_CannotSplit := ⟨e2_CannotSplit, PySem.W.mg_of X G e1_CannotSplit, e3_CannotSplit, e4_CannotSplit, e5_CannotSplit⟩, e_InvalidFraction := ⟨e2_InvalidFraction, PySem.W.mg_of X G e1_InvalidFraction, e3_InvalidFraction, e4_InvalidFraction, e5_InvalidFraction⟩, e_InvalidNumber := ⟨e2_InvalidNumber, PySem.W.mg_of X G e1_InvalidNumber, e3_InvalidNumber, e4_InvalidNumber, e5_InvalidNumber⟩, e_InvalidSum := ⟨e2_InvalidSum, PySem.W.mg_of X G e1_InvalidSum, e3_InvalidSum, e4_InvalidSum, e5_InvalidSum⟩, e_NotThere := ⟨e2_NotThere, PySem.W.mg_of X G e1_NotThere, e3_NotThere, e4_NotThere, e5_NotThere⟩, e_NothingToUndo := ⟨e2_NothingToUndo, PySem.W.mg_of X G e1_NothingToUndo, e3_NothingToUndo, e4_NothingToUndo, e5_NothingToUndo⟩, e_ParseError := ⟨e2_ParseError, PySem.W.mg_of X G e1_ParseError, e3_ParseError, e4_ParseError, e5_ParseError⟩, e_TooGreat := ⟨e2_TooGreat, PySem.W.mg_of X G e1_TooGreat, e3_TooGreat, e4_TooGreat, e5_TooGreat⟩, e_Used := ⟨e2_Used, PySem.W.mg_of X G e1_Used, e3_Used, e4_Used, e5_Used⟩ }
  have CC : CutC K C_Cutter := ⟨⟨c_1, c_2, c_3, c_4⟩, c_5, c_6, c_7⟩
  have CI : CutI K C_Cutter := ⟨i_1, i_2, i_3, i_4, if_pos (beq_self_eq_true _)⟩
  have mgC := PySem.W.mg_of X G ca
  have F0 := fun_mk (st := s_Cutter_parts) l0 c0 k0
  have b0 := F0.binds (ps := ["self"]) fun _ _ _ _ _ _ us hl => match us, hl with | [_], _ => rfl
  have F1 := fun_mk (st := s_Cutter_len) l1 c1 k1
  have b1 := F1.binds (ps := ["self"]) fun _ _ _ _ _ _ us hl => match us, hl with | [_], _ => rfl
  have F2 := fun_mk (st := s_is_integer) l2 c2 k2
  have b2 := F2.binds (ps := ["value", "low", "high"]) fun _ _ _ _ _ _ us hl => match us, hl with | [_, _, _], _ => rfl
  have F3 := fun_mk (st := s_divisor_of) l3 c3 k3
  have b3 := F3.binds (ps := ["one", "other"]) fun _ _ _ _ _ _ us hl => match us, hl with | [_, _], _ => rfl
  have F4 := fun_mk (st := s_is_sum) l4 c4 k4
  have b4 := F4.binds (ps := ["value"]) fun _ _ _ _ _ _ us hl => match us, hl with | [_], _ => rfl
  have F5 := fun_mk (st := s_text_of) l5 c5 k5
  have b5 := F5.binds (ps := ["value"]) fun _ _ _ _ _ _ us hl => match us, hl with | [_], _ => rfl
  have F6 := fun_mk (st := s_greatest_in) l6 c6 k6
  have b6 := F6.binds (ps := ["rest"]) fun _ _ _ _ _ _ us hl => match us, hl with | [_], _ => rfl
  have F7 := fun_mk (st := s_pair_list) l7 c7 k7
  have b7 := F7.binds (ps := ["rest", "low"]) fun _ _ _ _ _ _ us hl => match us, hl with | [_, _], _ => rfl
  have F8 := fun_mk (st := s_can_split) l8 c8 k8
  have b8 := F8.binds (ps := ["value", "part"]) fun _ _ _ _ _ _ us hl => match us, hl with | [_, _], _ => rfl
  have F9 := fun_mk (st := s_law_cell_at) l9 c9 k9
  have b9 := F9.binds (ps := ["_law_script", "_law_k"]) fun _ _ _ _ _ _ us hl => match us, hl with | [_, _], _ => rfl
  have F10 := fun_mk (st := s_law_shared) l10 c10 k10
  have b10 := F10.binds (ps := ["_law_one", "_law_other"]) fun _ _ _ _ _ _ us hl => match us, hl with | [_, _], _ => rfl
  have F11 := fun_mk (st := s_Cutter_str) l11 c11 k11
  have b11 := F11.binds (ps := ["self"]) fun _ _ _ _ _ _ us hl => match us, hl with | [_], _ => rfl
  have F12 := fun_mk (st := s_is_fraction) l12 c12 k12
  have b12 := F12.binds (ps := ["value"]) fun _ _ _ _ _ _ us hl => match us, hl with | [_], _ => rfl
  have F13 := fun_mk (st := s_check_sum) l13 c13 k13
  have b13 := F13.binds (ps := ["value", "count", "most"]) fun _ _ _ _ _ _ us hl => match us, hl with | [_, _, _], _ => rfl
  have F14 := fun_mk (st := s_lowest) l14 c14 k14
  have b14 := F14.binds (ps := ["top", "bottom"]) fun _ _ _ _ _ _ us hl => match us, hl with | [_, _], _ => rfl
  have F15 := fun_mk (st := s_parse_sum) l15 c15 k15
  have b15 := F15.binds (ps := ["text"]) fun _ _ _ _ _ _ us hl => match us, hl with | [_], _ => rfl
  have F16 := fun_mk (st := s_law_mixed) l16 c16 k16
  have b16 := F16.binds (ps := ["_law_script", "_law_k", "_law_many"]) fun _ _ _ _ _ _ us hl => match us, hl with | [_, _, _], _ => rfl
  have F17 := fun_mk (st := s_check_fraction) l17 c17 k17
  have b17 := F17.binds (ps := ["fraction"]) fun _ _ _ _ _ _ us hl => match us, hl with | [_], _ => rfl
  have F18 := fun_mk (st := s_less_part) l18 c18 k18
  have b18 := F18.binds (ps := ["rest", "part"]) fun _ _ _ _ _ _ us hl => match us, hl with | [_, _], _ => rfl
  have F19 := fun_mk (st := s_total_of) l19 c19 k19
  have b19 := F19.binds (ps := ["value"]) fun _ _ _ _ _ _ us hl => match us, hl with | [_], _ => rfl
  have F20 := fun_mk (st := s_format_sum) l20 c20 k20
  have b20 := F20.binds (ps := ["value"]) fun _ _ _ _ _ _ us hl => match us, hl with | [_], _ => rfl
  have F21 := fun_mk (st := s_split) l21 c21 k21
  have b21 := F21.binds (ps := ["value", "part"]) fun _ _ _ _ _ _ us hl => match us, hl with | [_, _], _ => rfl
  have F22 := fun_mk (st := s_splittable) l22 c22 k22
  have b22 := F22.binds (ps := ["value"]) fun _ _ _ _ _ _ us hl => match us, hl with | [_], _ => rfl
  have F23 := fun_mk (st := s_law_draw) l23 c23 k23
  have b23 := F23.binds (ps := ["_law_script", "_law_town", "_law_many"]) fun _ _ _ _ _ _ us hl => match us, hl with | [_, _, _], _ => rfl
  have F24 := fun_mk (st := s_Cutter_init) l24 c24 k24
  have b24 := F24.binds (ps := ["self", "fraction"]) fun _ _ _ _ _ _ us hl => match us, hl with | [_, _], _ => rfl
  have F25 := fun_mk (st := s_Cutter_left) l25 c25 k25
  have b25 := F25.binds (ps := ["self"]) fun _ _ _ _ _ _ us hl => match us, hl with | [_], _ => rfl
  have F26 := fun_mk (st := s_total) l26 c26 k26
  have b26 := F26.binds (ps := ["value"]) fun _ _ _ _ _ _ us hl => match us, hl with | [_], _ => rfl
  have F27 := fun_mk (st := s_is_sum_of) l27 c27 k27
  have b27 := F27.binds (ps := ["fraction", "value"]) fun _ _ _ _ _ _ us hl => match us, hl with | [_, _], _ => rfl
  have F28 := fun_mk (st := s_greedyF) l28 c28 k28
  have b28 := F28.binds (ps := ["fraction"]) fun _ _ _ _ _ _ us hl => match us, hl with | [_], _ => rfl
  have F29 := fun_mk (st := s_law_pick) l29 c29 k29
  have b29 := F29.binds (ps := ["_law_script", "_law_town", "_law_some"]) fun _ _ _ _ _ _ us hl => match us, hl with | [_, _, _], _ => rfl
  have F30 := fun_mk (st := s_Cutter_cut) l30 c30 k30
  have b30 := F30.binds (ps := ["self", "part"]) fun _ _ _ _ _ _ us hl => match us, hl with | [_, _], _ => rfl
  have F31 := fun_mk (st := s_Cutter_next_part) l31 c31 k31
  have b31 := F31.binds (ps := ["self"]) fun _ _ _ _ _ _ us hl => match us, hl with | [_], _ => rfl
  have F32 := fun_mk (st := s_Cutter_undo) l32 c32 k32
  have b32 := F32.binds (ps := ["self"]) fun _ _ _ _ _ _ us hl => match us, hl with | [_], _ => rfl
  have F33 := fun_mk (st := s_law_some_share) l33 c33 k33
  have b33 := F33.binds (ps := ["_law_script", "_law_town"]) fun _ _ _ _ _ _ us hl => match us, hl with | [_, _], _ => rfl
  have F34 := fun_mk (st := s_sum_list) l34 c34 k34
  have b34 := F34.binds (ps := ["rest", "count", "low", "first"]) fun _ _ _ _ _ _ us hl => match us, hl with | [_, _, _, _], _ => rfl
  have F35 := fun_mk (st := s_first_of) l35 c35 k35
  have b35 := F35.binds (ps := ["fraction"]) fun _ _ _ _ _ _ us hl => match us, hl with | [_], _ => rfl
  have F36 := fun_mk (st := s_first_sum) l36 c36 k36
  have b36 := F36.binds (ps := ["fraction"]) fun _ _ _ _ _ _ us hl => match us, hl with | [_], _ => rfl
  have F37 := fun_mk (st := s_k13_law) l37 c37 k37
  refine ⟨PySem.W.fnOf "law" "law" (defArgs s_k13_law) (defBody s_k13_law) (defScope s_k13_law) .none kV37 dc37 pm37 an37 cd37 ct37, fun s v => .of_eq rfl, fun base _ _ => ?_⟩
  have D_Cutter_parts := ok_Cutter_parts (P := P) (w := w) (base := base) T CC CI mgC F0 ⟨j0, i0, k0⟩ b0
  have D_Cutter_len := ok_Cutter_len (P := P) (w := w) (base := base) T CC CI mgC F1 ⟨j1, i1, k1⟩ b1
  have D_is_integer := ok_is_integer (P := P) (w := w) (base := base) (C := C_Cutter) T CC CI mgC F2 (PySem.W.mg_of X G a2) b2
  have D_divisor_of := ok_divisor_of (P := P) (w := w) (base := base) (C := C_Cutter) T CC CI mgC F3 (PySem.W.mg_of X G a3) b3
  have D_is_sum := ok_is_sum (P := P) (w := w) (base := base) (C := C_Cutter) T CC CI mgC F4 (PySem.W.mg_of X G a4) b4
  have D_text_of := ok_text_of (P := P) (w := w) (base := base) (C := C_Cutter) T CC CI mgC F5 (PySem.W.mg_of X G a5) b5
  have D_greatest_in := ok_greatest_in (P := P) (w := w) (base := base) (C := C_Cutter) T CC CI mgC F6 (PySem.W.mg_of X G a6) b6
  have D_pair_list := ok_pair_list (P := P) (w := w) (base := base) (C := C_Cutter) T CC CI mgC F7 (PySem.W.mg_of X G a7) b7
  have D_can_split := ok_can_split (P := P) (w := w) (base := base) (C := C_Cutter) T CC CI mgC F8 (PySem.W.mg_of X G a8) b8
  have D_law_cell_at := ok_law_cell_at (P := P) (w := w) (base := base) (C := C_Cutter) T CC CI mgC F9 (PySem.W.mg_of X G a9) b9
  have D_law_shared := ok_law_shared (P := P) (w := w) (base := base) (C := C_Cutter) T CC CI mgC F10 (PySem.W.mg_of X G a10) b10
  have D_Cutter_str := ok_Cutter_str (P := P) (w := w) (base := base) T CC CI mgC F11 ⟨j11, i11, k11⟩ b11 D_text_of
  have D_is_fraction := ok_is_fraction (P := P) (w := w) (base := base) (C := C_Cutter) T CC CI mgC F12 (PySem.W.mg_of X G a12) b12 D_divisor_of D_is_integer
  have D_check_sum := ok_check_sum (P := P) (w := w) (base := base) (C := C_Cutter) T CC CI mgC F13 (PySem.W.mg_of X G a13) b13 D_is_sum
  have D_lowest := ok_lowest (P := P) (w := w) (base := base) (C := C_Cutter) T CC CI mgC F14 (PySem.W.mg_of X G a14) b14 D_divisor_of
  have D_parse_sum := ok_parse_sum (P := P) (w := w) (base := base) (C := C_Cutter) T CC CI mgC F15 (PySem.W.mg_of X G a15) b15 D_is_sum D_text_of
  have D_law_mixed := ok_law_mixed (P := P) (w := w) (base := base) (C := C_Cutter) T CC CI mgC F16 (PySem.W.mg_of X G a16) b16 D_law_cell_at
  have D_check_fraction := ok_check_fraction (P := P) (w := w) (base := base) (C := C_Cutter) T CC CI mgC F17 (PySem.W.mg_of X G a17) b17 D_is_fraction
  have D_less_part := ok_less_part (P := P) (w := w) (base := base) (C := C_Cutter) T CC CI mgC F18 (PySem.W.mg_of X G a18) b18 D_lowest
  have D_total_of := ok_total_of (P := P) (w := w) (base := base) (C := C_Cutter) T CC CI mgC F19 (PySem.W.mg_of X G a19) b19 D_lowest
  have D_format_sum := ok_format_sum (P := P) (w := w) (base := base) (C := C_Cutter) T CC CI mgC F20 (PySem.W.mg_of X G a20) b20 D_check_sum D_text_of
  have D_split := ok_split (P := P) (w := w) (base := base) (C := C_Cutter) T CC CI mgC F21 (PySem.W.mg_of X G a21) b21 D_can_split D_check_sum D_is_integer
  have D_splittable := ok_splittable (P := P) (w := w) (base := base) (C := C_Cutter) T CC CI mgC F22 (PySem.W.mg_of X G a22) b22 D_can_split D_check_sum
  have D_law_draw := ok_law_draw (P := P) (w := w) (base := base) (C := C_Cutter) T CC CI mgC F23 (PySem.W.mg_of X G a23) b23 D_law_mixed
  have D_Cutter_init := ok_Cutter_init (P := P) (w := w) (base := base) T CC CI mgC F24 ⟨cm, j24, i24, cp⟩ b24 D_check_fraction
  have D_Cutter_left := ok_Cutter_left (P := P) (w := w) (base := base) T CC CI mgC F25 ⟨j25, i25, k25⟩ b25 D_less_part
  have D_total := ok_total (P := P) (w := w) (base := base) (C := C_Cutter) T CC CI mgC F26 (PySem.W.mg_of X G a26) b26 D_check_sum D_total_of
  have D_is_sum_of := ok_is_sum_of (P := P) (w := w) (base := base) (C := C_Cutter) T CC CI mgC F27 (PySem.W.mg_of X G a27) b27 D_check_fraction D_is_sum D_total_of
  have D_greedyF := ok_greedyF (P := P) (w := w) (base := base) (C := C_Cutter) T CC CI mgC F28 (PySem.W.mg_of X G a28) b28 D_check_fraction D_greatest_in D_less_part
  have D_law_pick := ok_law_pick (P := P) (w := w) (base := base) (C := C_Cutter) T CC CI mgC F29 (PySem.W.mg_of X G a29) b29 D_law_draw
  have D_Cutter_cut := ok_Cutter_cut (P := P) (w := w) (base := base) T CC CI mgC F30 ⟨j30, i30, k30⟩ b30 D_Cutter_left D_is_integer
  have D_Cutter_next_part := ok_Cutter_next_part (P := P) (w := w) (base := base) T CC CI mgC F31 ⟨j31, i31, k31⟩ b31 D_Cutter_left D_greatest_in
  have D_Cutter_undo := ok_Cutter_undo (P := P) (w := w) (base := base) T CC CI mgC F32 ⟨j32, i32, k32⟩ b32 D_Cutter_left
  have D_law_some_share := ok_law_some_share (P := P) (w := w) (base := base) (C := C_Cutter) T CC CI mgC F33 (PySem.W.mg_of X G a33) b33 D_law_draw D_law_pick D_law_shared
  have D_sum_list := ok_sum_list (P := P) (w := w) (base := base) (C := C_Cutter) T CC CI mgC F34 (PySem.W.mg_of X G a34) b34 D_greatest_in D_less_part D_pair_list 10
  have D_first_of := ok_first_of (P := P) (w := w) (base := base) (C := C_Cutter) T CC CI mgC F35 (PySem.W.mg_of X G a35) b35 D_sum_list
  have D_first_sum := ok_first_sum (P := P) (w := w) (base := base) (C := C_Cutter) T CC CI mgC F36 (PySem.W.mg_of X G a36) b36 D_check_fraction D_first_of
  exact (ok_k13_law (C := C_Cutter) T CC CI mgC F37 D_Cutter_cut D_Cutter_init D_Cutter_left D_Cutter_len D_Cutter_next_part D_Cutter_parts D_Cutter_str D_Cutter_undo D_first_sum D_format_sum D_greedyF D_is_sum_of D_law_some_share D_parse_sum D_split D_splittable D_total).imp (spLaw_of (Φ_k13_law_ok K))
end Ev

open PySem PySem.W PyProof.Rows in
set_option maxRecDepth 100000 in
set_option maxHeartbeats 0 in
theorem PySem.Challenge.cw_oneparts_k13_whole_from_text_to_cutter_holds : PySem.Challenge.rw_oneparts_k13_whole_from_text_to_cutter.Holds := by
  w_on; o_law; k_head; (case hw => w_witness2)
  k_fill
  refine Ev.walk (l := PySem.Challenge.rw_oneparts_k13_whole_from_text_to_cutter) (k := 17) rfl rfl ⟨rfl, by decide, by decide⟩ (fun w h Y => PySem.W.kIn_of Y) ?F
  case F =>
    intro w mg fa h KX G hmg
    refine' Ev.all_mk KX G hmg ?ca ?cp ?cm ?c_1 ?c_2 ?c_3 ?c_4 ?c_5 ?c_6 ?c_7 ?i_1 ?i_2 ?i_3 ?i_4 ?j0 ?i0 ?l0 ?c0 ?k0 ?j1 ?i1 ?l1 ?c1 ?k1 ?a2 ?l2 ?c2 ?k2 ?a3 ?l3 ?c3 ?k3 ?a4 ?l4 ?c4 ?k4 ?a5 ?l5 ?c5 ?k5 ?a6 ?l6 ?c6 ?k6 ?a7 ?l7 ?c7 ?k7 ?a8 ?l8 ?c8 ?k8 ?a9 ?l9 ?c9 ?k9 ?a10 ?l10 ?c10 ?k10 ?j11 ?i11 ?l11 ?c11 ?k11 ?a12 ?l12 ?c12 ?k12 ?a13 ?l13 ?c13 ?k13 ?a14 ?l14 ?c14 ?k14 ?a15 ?l15 ?c15 ?k15 ?a16 ?l16 ?c16 ?k16 ?a17 ?l17 ?c17 ?k17 ?a18 ?l18 ?c18 ?k18 ?a19 ?l19 ?c19 ?k19 ?a20 ?l20 ?c20 ?k20 ?a21 ?l21 ?c21 ?k21 ?a22 ?l22 ?c22 ?k22 ?a23 ?l23 ?c23 ?k23 ?j24 ?i24 ?l24 ?c24 ?k24 ?j25 ?i25 ?l25 ?c25 ?k25 ?a26 ?l26 ?c26 ?k26 ?a27 ?l27 ?c27 ?k27 ?a28 ?l28 ?c28 ?k28 ?a29 ?l29 ?c29 ?k29 ?j30 ?i30 ?l30 ?c30 ?k30 ?j31 ?i31 ?l31 ?c31 ?k31 ?j32 ?i32 ?l32 ?c32 ?k32 ?a33 ?l33 ?c33 ?k33 ?a34 ?l34 ?c34 ?k34 ?a35 ?l35 ?c35 ?k35 ?a36 ?l36 ?c36 ?k36 ?a37 ?l37 ?c37 ?k37 ?z_all ?z_bool ?z_int ?z_isinstance ?z_len ?z_list ?z_max ?z_min ?z_range ?z_sorted ?z_str ?z_tuple ?z_zip ?y_DIGITS ?y_MOST ?e1_CannotSplit ?e2_CannotSplit ?e3_CannotSplit ?e4_CannotSplit ?e5_CannotSplit ?e1_InvalidFraction ?e2_InvalidFraction ?e3_InvalidFraction ?e4_InvalidFraction ?e5_InvalidFraction ?e1_InvalidNumber ?e2_InvalidNumber ?e3_InvalidNumber ?e4_InvalidNumber ?e5_InvalidNumber ?e1_InvalidSum ?e2_InvalidSum ?e3_InvalidSum ?e4_InvalidSum ?e5_InvalidSum ?e1_NotThere ?e2_NotThere ?e3_NotThere ?e4_NotThere ?e5_NotThere ?e1_NothingToUndo ?e2_NothingToUndo ?e3_NothingToUndo ?e4_NothingToUndo ?e5_NothingToUndo ?e1_ParseError ?e2_ParseError ?e3_ParseError ?e4_ParseError ?e5_ParseError ?e1_TooGreat ?e2_TooGreat ?e3_TooGreat ?e4_TooGreat ?e5_TooGreat ?e1_Used ?e2_Used ?e3_Used ?e4_Used ?e5_Used
    (case ca => k_is)
    (case cp => k_is)
    (case cm => k_is)
    (case c_1 => k_is)
    (case c_2 => k_is)
    (case c_3 => k_is)
    (case c_4 => k_is)
    (case c_5 => k_is)
    (case c_6 => k_is)
    (case c_7 => k_is)
    (case i_1 => k_is)
    (case i_2 => k_is)
    (case i_3 => k_is)
    (case i_4 => k_is)
    (case j0 => k_is)
    (case i0 => k_is)
    (case l0 => k_is)
    (case c0 => k_is)
    (case k0 => k_is)
    (case j1 => k_is)
    (case i1 => k_is)
    (case l1 => k_is)
    (case c1 => k_is)
    (case k1 => k_is)
    (case a2 => k_is)
    (case l2 => k_is)
    (case c2 => k_is)
    (case k2 => k_is)
    (case a3 => k_is)
    (case l3 => k_is)
    (case c3 => k_is)
    (case k3 => k_is)
    (case a4 => k_is)
    (case l4 => k_is)
    (case c4 => k_is)
    (case k4 => k_is)
    (case a5 => k_is)
    (case l5 => k_is)
    (case c5 => k_is)
    (case k5 => k_is)
    (case a6 => k_is)
    (case l6 => k_is)
    (case c6 => k_is)
    (case k6 => k_is)
    (case a7 => k_is)
    (case l7 => k_is)
    (case c7 => k_is)
    (case k7 => k_is)
    (case a8 => k_is)
    (case l8 => k_is)
    (case c8 => k_is)
    (case k8 => k_is)
    (case a9 => k_is)
    (case l9 => k_is)
    (case c9 => k_is)
    (case k9 => k_is)
    (case a10 => k_is)
    (case l10 => k_is)
    (case c10 => k_is)
    (case k10 => k_is)
    (case j11 => k_is)
    (case i11 => k_is)
    (case l11 => k_is)
    (case c11 => k_is)
    (case k11 => k_is)
    (case a12 => k_is)
    (case l12 => k_is)
    (case c12 => k_is)
    (case k12 => k_is)
    (case a13 => k_is)
    (case l13 => k_is)
    (case c13 => k_is)
    (case k13 => k_is)
    (case a14 => k_is)
    (case l14 => k_is)
    (case c14 => k_is)
    (case k14 => k_is)
    (case a15 => k_is)
    (case l15 => k_is)
    (case c15 => k_is)
    (case k15 => k_is)
    (case a16 => k_is)
    (case l16 => k_is)
    (case c16 => k_is)
    (case k16 => k_is)
    (case a17 => k_is)
    (case l17 => k_is)
    (case c17 => k_is)
    (case k17 => k_is)
    (case a18 => k_is)
    (case l18 => k_is)
    (case c18 => k_is)
    (case k18 => k_is)
    (case a19 => k_is)
    (case l19 => k_is)
    (case c19 => k_is)
    (case k19 => k_is)
    (case a20 => k_is)
    (case l20 => k_is)
    (case c20 => k_is)
    (case k20 => k_is)
    (case a21 => k_is)
    (case l21 => k_is)
    (case c21 => k_is)
    (case k21 => k_is)
    (case a22 => k_is)
    (case l22 => k_is)
    (case c22 => k_is)
    (case k22 => k_is)
    (case a23 => k_is)
    (case l23 => k_is)
    (case c23 => k_is)
    (case k23 => k_is)
    (case j24 => k_is)
    (case i24 => k_is)
    (case l24 => k_is)
    (case c24 => k_is)
    (case k24 => k_is)
    (case j25 => k_is)
    (case i25 => k_is)
    (case l25 => k_is)
    (case c25 => k_is)
    (case k25 => k_is)
    (case a26 => k_is)
    (case l26 => k_is)
    (case c26 => k_is)
    (case k26 => k_is)
    (case a27 => k_is)
    (case l27 => k_is)
    (case c27 => k_is)
    (case k27 => k_is)
    (case a28 => k_is)
    (case l28 => k_is)
    (case c28 => k_is)
    (case k28 => k_is)
    (case a29 => k_is)
    (case l29 => k_is)
    (case c29 => k_is)
    (case k29 => k_is)
    (case j30 => k_is)
    (case i30 => k_is)
    (case l30 => k_is)
    (case c30 => k_is)
    (case k30 => k_is)
    (case j31 => k_is)
    (case i31 => k_is)
    (case l31 => k_is)
    (case c31 => k_is)
    (case k31 => k_is)
    (case j32 => k_is)
    (case i32 => k_is)
    (case l32 => k_is)
    (case c32 => k_is)
    (case k32 => k_is)
    (case a33 => k_is)
    (case l33 => k_is)
    (case c33 => k_is)
    (case k33 => k_is)
    (case a34 => k_is)
    (case l34 => k_is)
    (case c34 => k_is)
    (case k34 => k_is)
    (case a35 => k_is)
    (case l35 => k_is)
    (case c35 => k_is)
    (case k35 => k_is)
    (case a36 => k_is)
    (case l36 => k_is)
    (case c36 => k_is)
    (case k36 => k_is)
    (case a37 => k_is)
    (case l37 => k_is)
    (case c37 => k_is)
    (case k37 => k_is)
    (case z_all => k_is)
    (case z_bool => k_is)
    (case z_int => k_is)
    (case z_isinstance => k_is)
    (case z_len => k_is)
    (case z_list => k_is)
    (case z_max => k_is)
    (case z_min => k_is)
    (case z_range => k_is)
    (case z_sorted => k_is)
    (case z_str => k_is)
    (case z_tuple => k_is)
    (case z_zip => k_is)
    (case y_DIGITS => k_is)
    (case y_MOST => k_is)
    (case e1_CannotSplit => k_is)
    (case e2_CannotSplit => k_exc)
    (case e3_CannotSplit => k_is)
    (case e4_CannotSplit => k_is)
    (case e5_CannotSplit => k_is)
    (case e1_InvalidFraction => k_is)
    (case e2_InvalidFraction => k_exc)
    (case e3_InvalidFraction => k_is)
    (case e4_InvalidFraction => k_is)
    (case e5_InvalidFraction => k_is)
    (case e1_InvalidNumber => k_is)
    (case e2_InvalidNumber => k_exc)
    (case e3_InvalidNumber => k_is)
    (case e4_InvalidNumber => k_is)
    (case e5_InvalidNumber => k_is)
    (case e1_InvalidSum => k_is)
    (case e2_InvalidSum => k_exc)
    (case e3_InvalidSum => k_is)
    (case e4_InvalidSum => k_is)
    (case e5_InvalidSum => k_is)
    (case e1_NotThere => k_is)
    (case e2_NotThere => k_exc)
    (case e3_NotThere => k_is)
    (case e4_NotThere => k_is)
    (case e5_NotThere => k_is)
    (case e1_NothingToUndo => k_is)
    (case e2_NothingToUndo => k_exc)
    (case e3_NothingToUndo => k_is)
    (case e4_NothingToUndo => k_is)
    (case e5_NothingToUndo => k_is)
    (case e1_ParseError => k_is)
    (case e2_ParseError => k_exc)
    (case e3_ParseError => k_is)
    (case e4_ParseError => k_is)
    (case e5_ParseError => k_is)
    (case e1_TooGreat => k_is)
    (case e2_TooGreat => k_exc)
    (case e3_TooGreat => k_is)
    (case e4_TooGreat => k_is)
    (case e5_TooGreat => k_is)
    (case e1_Used => k_is)
    (case e2_Used => k_exc)
    (case e3_Used => k_is)
    (case e4_Used => k_is)
    (case e5_Used => k_is)
#print axioms PySem.Challenge.cw_oneparts_k13_whole_from_text_to_cutter_holds
