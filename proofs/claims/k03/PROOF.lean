import PyProof.Rows.All
import Wide.All
import OpenK.AllK
import Wide.FinOn
import KE.KStateDown
import Lean
import HandS.Base
import HandS.Call
import HandS.Ends
import HandS.More
import HandS.Words
import HandS.WordsExc
import HandS.Defaults
import HandS.Head0
import HandS.Head1
import HandS.Head2
import HandS.HeadEnd
import HandS.HeadHook1
import HandS.HeadHook2
import HandS.HeadHook3
import HandS.HeadHook4
import HandS.ForMost
import HandS.ForExc
import HandS.TupAny
import HandS.TupMul
import HandS.Wide
import KE.KDictKeyed
import HandS.IsInst
import HandS.Deep
import KE.KDictPairs
import HandS.Conv
import HandS.Steps
import HandS.Zip
import KE.GoesZip
import KE.GoesMore
import KE.KTurns
import PyProof.ReprRoads
import PyProof.CallFns
import HandS.SetTxt0
import HandS.SetBool
import HandS.Style
import PyProof.StrLawsRepr
import PyProof.Rows.StrDigits
import PySem.Challenge.RW_degreewise_k03_whole_degrees
set_option Elab.async false
set_option linter.all false
set_option maxRecDepth 100000
set_option maxHeartbeats 0
/-! DL: a layer of plain values over HandS. D: values as trees; MO: objects that change; Mo: what a piece of program makes of them. -/
namespace DL
open PySem PySem.Spec PyProof.Rows L2

inductive D where
  | non | emp | scr (ns : List Int) | bl (b : Bool) | int (i : Int) | str (x : Str) | tup (xs : List D) | lst (xs : List D) | obj (n : Nat)
inductive MO where
  | lst (xs : List D) | dK (kvs : List (Key × D)) | dF (kvs : List (NestedKey × D × D)) | ins (c : Str) (fs : List (Str × D)) | gone
abbrev MS := List MO
/-- where classes stand; the world that a text's hash is of -/
structure Cl where
  fn : Str → Addr
  w : World
instance : CoeFun Cl (fun _ => Str → Addr) := ⟨Cl.fn⟩
/-! ### keys of dicts that are trees -/
mutual
def nk : D → Option NestedKey
  | .non => some .none
  | .int i => some (.num i)
  | .str x => some (.text x)
  | .tup ds => (nks ds).map NestedKey.tup
  | _ => none
def nks : List D → Option (List NestedKey)
  | [] => some []
  | d :: ds => (nk d).bind fun k => (nks ds).map (k :: ·)
end
/-- a tuple that is a key, nested to eight at most -/
def keyN : D → Option NestedKey
  | .tup ds => (nk (.tup ds)).bind fun k => if k.depth ≤ 8 then some k else none
  | _ => none
structure Ex where
  cls : Str
  arg : Option D
abbrev Out (α : Type) := Option (Except Ex α × MS)
abbrev Mo (α : Type) := MS → Out α
namespace Mo
variable {α β : Type}
def ret (a : α) : Mo α := fun M => some (.ok a, M)
def bnd (m : Mo α) (f : α → Mo β) : Mo β := fun M => match m M with
  | none => none
  | some (.error e, M') => some (.error e, M')
  | some (.ok a, M') => f a M'
def stop : Mo α := fun _ => none
def opt (o : Option α) : Mo α := fun M => match o with
  | some a => some (.ok a, M)
  | none => none
theorem ret_bnd (a : α) (f : α → Mo β) : bnd (ret a) f = f a := rfl
theorem opt_some (a : α) : opt (some a) = ret a := rfl
theorem opt_none : (opt none : Mo α) = stop := rfl
theorem stop_bnd (f : α → Mo β) : bnd stop f = stop := rfl
theorem bnd_assoc {γ : Type} (m : Mo α) (f : α → Mo β) (g : β → Mo γ) : bnd (bnd m f) g = bnd m fun a => bnd (f a) g := by
  funext M
  unfold bnd
  cases m M with
  | none => rfl
  | some r =>
    obtain ⟨r, M'⟩ := r
    cases r <;> rfl
theorem bnd_ok {m : Mo α} {f : α → Mo β} {M M' : MS} {b : β} (h : bnd m f M = some (.ok b, M')) : ∃ a M1, m M = some (.ok a, M1) ∧ f a M1 = some (.ok b, M') := by
  unfold bnd at h
  cases e : m M with
  | none => rw [e] at h; cases h
  | some r =>
    rw [e] at h
    obtain ⟨r, M1⟩ := r
    cases r with
    | error x => cases h
    | ok a => exact ⟨a, M1, rfl, h⟩
theorem bnd_of {m : Mo α} {f : α → Mo β} {M M1 : MS} {a : α} (h : m M = some (.ok a, M1)) : bnd m f M = f a M1 := by
  unfold bnd
  rw [h]
end Mo
abbrev Rho := List (Option D)

/-! ### the world: where the objects that change stand; what is frozen; what else stands still -/
structure Wd where
  ι : List Addr
  G : Hp
  F : Hp
structure Wd.le (W W' : Wd) : Prop where
  i : ∀ (n : Nat) a, W.ι[n]? = some a → W'.ι[n]? = some a
  g : ∀ a o, W.G a = some o → W'.G a = some o
  f : ∀ a o, W.F a = some o → W'.F a = some o
/-- what values lean on -/
structure Wd.vle (W W' : Wd) : Prop where
  i : ∀ (n : Nat) a, W.ι[n]? = some a → W'.ι[n]? = some a
  g : ∀ a o, W.G a = some o → W'.G a = some o
theorem Wd.le.v {W W' : Wd} (l : W.le W') : W.vle W' := ⟨l.i, l.g⟩
theorem Wd.vle.refl (W : Wd) : W.vle W := ⟨fun _ _ h => h, fun _ _ h => h⟩
theorem Wd.le.refl (W : Wd) : W.le W := ⟨fun _ _ h => h, fun _ _ h => h, fun _ _ h => h⟩
theorem Wd.le.trans {A B C : Wd} (a : A.le B) (b : B.le C) : A.le C := ⟨fun n x h => b.i n x (a.i n x h), fun x o h => b.g x o (a.g x o h), fun x o h => b.f x o (a.f x o h)⟩

/-- a tuple of which it is known that it has no dict of its own -/
def TupN (K : PySem.W.Frag) (G : Hp) (a : Addr) (vs : List V) : Prop := (∃ o, G a = some (.frz o (.tup vs)) ∧ o.dict = none) ∨ ∃ (o : Obj) (its : Array Value) (n : Nat), K.lookup a = some o ∧ o.cls = .type "tuple" ∧ o.dict = none ∧ o.data = .seq its n ∧ its.size ≤ sizeLine ∧ Vals vs its.toList
theorem TupN.sq {K : PySem.W.Frag} {G : Hp} {a : Addr} {vs : List V} (h : TupN K G a vs) : SqT K G a vs := by
  rcases h with ⟨o, h, _⟩ | ⟨o, its, n, h1, h2, _, h3⟩
  · exact .inl (.inr ⟨o, h⟩)
  · exact .inr ⟨o, its, n, h1, h2, h3⟩
theorem TupN.mono {K : PySem.W.Frag} {G G' : Hp} {a : Addr} {vs : List V} (l : ∀ a o, G a = some o → G' a = some o) (h : TupN K G a vs) : TupN K G' a vs := by
  rcases h with ⟨o, h, e⟩ | h
  · exact .inl ⟨o, l _ _ h, e⟩
  · exact .inr h
section
variable (K : PySem.W.Frag)
mutual
def Rep (W : Wd) : D → V → Prop
  | .non, v => v = .non
  | .bl b, v => v = .bl b
  | .int i, v => v = .int i
  | .str x, v => v = .str x
  | .emp, v => ∃ a, v = .ref a ∧ W.G a = some (.dK [])
  | .tup ds, v => ∃ a vs, v = .ref a ∧ TupN K W.G a vs ∧ Reps W ds vs
  | .lst ds, v => ∃ a vs, v = .ref a ∧ Rd W.G a (.lst vs) ∧ Reps W ds vs
  | .scr ns, v => ∃ a, v = .ref a ∧ SqL K W.G a (ns.map V.int)
  | .obj n, v => ∃ a, v = .ref a ∧ W.ι[n]? = some a
def Reps (W : Wd) : List D → List V → Prop
  | [], vs => vs = []
  | d :: ds, vs => ∃ v r, vs = v :: r ∧ Rep W d v ∧ Reps W ds r
end
end
section
variable {K : PySem.W.Frag} {W W' : Wd}
theorem rd_mono {H H' : Hp} {a : Addr} {u : HO} (h : ∀ a o, H a = some o → H' a = some o) (s : Rd H a u) : Rd H' a u := by
  rcases s with s | ⟨o, s⟩
  · exact .inl (h _ _ s)
  · exact .inr ⟨o, h _ _ s⟩
theorem sqL_mono {H H' : Hp} {a : Addr} {vs : List V} (h : ∀ a o, H a = some o → H' a = some o) (s : SqL K H a vs) : SqL K H' a vs := by
  rcases s with (s | ⟨o, s⟩) | s
  · exact .inl (.inl (h _ _ s))
  · exact .inl (.inr ⟨o, h _ _ s⟩)
  · exact .inr s
theorem sqT_mono {H H' : Hp} {a : Addr} {vs : List V} (h : ∀ a o, H a = some o → H' a = some o) (s : SqT K H a vs) : SqT K H' a vs := by
  rcases s with (s | ⟨o, s⟩) | s
  · exact .inl (.inl (h _ _ s))
  · exact .inl (.inr ⟨o, h _ _ s⟩)
  · exact .inr s
mutual
theorem Rep.mono (l : W.vle W') : ∀ (d : D) (v : V), Rep K W d v → Rep K W' d v
  | .non, _, h => h
  | .bl _, _, h => h
  | .int _, _, h => h
  | .str _, _, h => h
  | .emp, _, ⟨a, e, h⟩ => ⟨a, e, l.g _ _ h⟩
  | .tup ds, _, ⟨a, vs, e, s, r⟩ => ⟨a, vs, e, s.mono l.g, Reps.mono l ds vs r⟩
  | .lst ds, _, ⟨a, vs, e, s, r⟩ => ⟨a, vs, e, rd_mono l.g s, Reps.mono l ds vs r⟩
  | .scr ns, _, ⟨a, e, s⟩ => ⟨a, e, sqL_mono l.g s⟩
  | .obj _, _, ⟨a, e, h⟩ => ⟨a, e, l.i _ _ h⟩
theorem Reps.mono (l : W.vle W') : ∀ (ds : List D) (vs : List V), Reps K W ds vs → Reps K W' ds vs
  | [], _, h => h
  | d :: ds, _, ⟨v, r, e, h1, h2⟩ => ⟨v, r, e, Rep.mono l d v h1, Reps.mono l ds r h2⟩
end
theorem Rep.up {d : D} {v : V} (h : Rep K W d v) (l : W.le W') : Rep K W' d v := Rep.mono l.v d v h
theorem Reps.up {d : List D} {v : List V} (h : Reps K W d v) (l : W.le W') : Reps K W' d v := Reps.mono l.v d v h
theorem Rep.upv {d : D} {v : V} (h : Rep K W d v) (l : W.vle W') : Rep K W' d v := Rep.mono l d v h
theorem Reps.upv {d : List D} {v : List V} (h : Reps K W d v) (l : W.vle W') : Reps K W' d v := Reps.mono l d v h
theorem Reps.length : ∀ {ds : List D} {vs : List V}, Reps K W ds vs → vs.length = ds.length
  | [], _, h => by rw [show _ = [] from h]; rfl
  | _ :: _, _, ⟨_, _, e, _, h⟩ => by rw [e, List.length_cons, List.length_cons, Reps.length h]
theorem Reps.get : ∀ {ds : List D} {vs : List V} {i : Nat} {d : D}, Reps K W ds vs → ds[i]? = some d → ∃ v, vs[i]? = some v ∧ Rep K W d v
  | [], _, _, _, _, h => by simp at h
  | _ :: _, _, 0, _, ⟨v, r, e, h1, _⟩, h => by simp at h; subst h; subst e; exact ⟨v, rfl, h1⟩
  | _ :: _, _, i + 1, _, ⟨v, r, e, _, h2⟩, h => by
    subst e
    obtain ⟨v', a, b⟩ := Reps.get (i := i) h2 (by simpa using h)
    exact ⟨v', by simpa using a, b⟩
theorem Reps.getV : ∀ {ds : List D} {vs : List V} {i : Nat} {v : V}, Reps K W ds vs → vs[i]? = some v → ∃ d, ds[i]? = some d ∧ Rep K W d v
  | [], _, _, _, h, h' => by rw [show _ = [] from h] at h'; simp at h'
  | _ :: _, _, 0, _, ⟨v, r, e, h1, _⟩, h => by subst e; simp at h; subst h; exact ⟨_, rfl, h1⟩
  | _ :: _, _, i + 1, _, ⟨v, r, e, _, h2⟩, h => by
    subst e
    obtain ⟨v', a, b⟩ := Reps.getV (i := i) h2 (by simpa using h)
    exact ⟨v', by simpa using a, b⟩
theorem Reps.append : ∀ {ds es : List D} {vs us : List V}, Reps K W ds vs → Reps K W es us → Reps K W (ds ++ es) (vs ++ us)
  | [], _, _, _, h, h' => by rw [show _ = [] from h]; exact h'
  | _ :: _, _, _, _, ⟨v, r, e, h1, h2⟩, h' => by subst e; exact ⟨v, r ++ _, rfl, h1, Reps.append h2 h'⟩
theorem Reps.take : ∀ {ds : List D} {vs : List V} (n : Nat), Reps K W ds vs → Reps K W (ds.take n) (vs.take n)
  | _, _, 0, _ => by simp [Reps]
  | [], _, _ + 1, h => by rw [show _ = [] from h]; simp [Reps]
  | _ :: _, _, n + 1, ⟨v, r, e, h1, h2⟩ => by subst e; exact ⟨v, r.take n, rfl, h1, Reps.take n h2⟩
theorem Reps.drop : ∀ {ds : List D} {vs : List V} (n : Nat), Reps K W ds vs → Reps K W (ds.drop n) (vs.drop n)
  | _, _, 0, h => h
  | [], _, _ + 1, h => by rw [show _ = [] from h]; simp [Reps]
  | _ :: _, _, n + 1, ⟨v, r, e, h1, h2⟩ => by subst e; exact Reps.drop n h2
theorem Reps.set : ∀ {ds : List D} {vs : List V} {d : D} {v : V} (i : Nat), Reps K W ds vs → Rep K W d v → Reps K W (ds.set i d) (vs.set i v)
  | [], _, _, _, _, h, _ => by rw [show _ = [] from h]; simp [Reps]
  | _ :: _, _, _, _, 0, ⟨v, r, e, h1, h2⟩, h => by subst e; exact ⟨_, r, rfl, h, h2⟩
  | _ :: _, _, _, _, i + 1, ⟨v, r, e, h1, h2⟩, h => by subst e; exact ⟨v, r.set i _, rfl, h1, Reps.set i h2 h⟩
theorem Reps.reverse {ds : List D} {vs : List V} (h : Reps K W ds vs) : Reps K W ds.reverse vs.reverse := by
  induction ds generalizing vs with
  | nil => rw [show vs = [] from h]; simp [Reps]
  | cons d ds ih =>
    obtain ⟨v, r, rfl, h1, h2⟩ := h
    rw [List.reverse_cons, List.reverse_cons]
    exact (ih h2).append ⟨v, [], rfl, h1, rfl⟩
theorem Reps.one {d : D} {v : V} (h : Rep K W d v) : Reps K W [d] [v] := ⟨v, [], rfl, h, rfl⟩
theorem Reps.nil_iff {ds : List D} {vs : List V} (h : Reps K W ds vs) : vs = [] ↔ ds = [] := by
  have e := h.length
  cases ds <;> cases vs <;> simp_all
theorem Reps.replicate {d : D} {v : V} (h : Rep K W d v) : ∀ n, Reps K W (List.replicate n d) (List.replicate n v)
  | 0 => rfl
  | n + 1 => ⟨v, _, rfl, h, Reps.replicate h n⟩
theorem Reps.rep_flat {ds : List D} {vs : List V} (h : Reps K W ds vs) : ∀ n, Reps K W (List.replicate n ds).flatten (List.replicate n vs).flatten
  | 0 => rfl
  | n + 1 => by rw [List.replicate_succ, List.flatten_cons, List.replicate_succ, List.flatten_cons]; exact h.append (Reps.rep_flat h n)
theorem Reps.map {α : Type} {f : α → D} {g : α → V} : ∀ {xs : List α}, (∀ x ∈ xs, Rep K W (f x) (g x)) → Reps K W (xs.map f) (xs.map g)
  | [], _ => rfl
  | x :: xs, h => ⟨g x, xs.map g, rfl, h x List.mem_cons_self, Reps.map fun y hy => h y (List.mem_cons_of_mem _ hy)⟩
theorem Reps.ints : ∀ {ns : List Int} {vs : List V}, Reps K W (ns.map D.int) vs → vs = ns.map V.int
  | [], _, h => h
  | _ :: _, _, ⟨v, r, e, h1, h2⟩ => by rw [e, show v = _ from h1, Reps.ints h2]; rfl
theorem Reps.strs : ∀ {ns : List Str} {vs : List V}, Reps K W (ns.map D.str) vs → vs = ns.map V.str
  | [], _, h => h
  | _ :: _, _, ⟨v, r, e, h1, h2⟩ => by rw [e, show v = _ from h1, Reps.strs h2]; rfl
theorem Reps.bls : ∀ {ns : List Bool} {vs : List V}, Reps K W (ns.map D.bl) vs → vs = ns.map V.bl
  | [], _, h => h
  | _ :: _, _, ⟨v, r, e, h1, h2⟩ => by rw [e, show v = _ from h1, Reps.bls h2]; rfl
end

/-! ### objects that change -/
section
variable (K : PySem.W.Frag) (cl : Cl)
def RepF (W : Wd) : List (Str × D) → List (Str × V) → Prop := Paired fun p q => p.1 = q.1 ∧ Rep K W p.2 q.2
def RepK (W : Wd) : List (Key × D) → List (Key × V) → Prop := Paired fun p q => p.1 = q.1 ∧ Rep K W p.2 q.2
def entN (w : World) (q : NestedKey × Addr × Value) : DictEntry := ⟨NestedKey.hash w q.1, .ref q.2.1, q.2.2⟩
/-- a dict whose keys are trees: its entries stand as told -/
def DfObj (w : World) (a : Addr) (xs : List (NestedKey × Addr × Value)) : Heap → Prop := fun h => ((a == sysModules) = false ∧ (xs.map (·.1)).Nodup) ∧ ∃ o es ep, h.get? a = some o ∧ o.ExactDict ∧ o.data = .dict es ep ∧ es.toList = xs.map (entN w)
def EntR (K : PySem.W.Frag) (W : Wd) (p : NestedKey × D × D) (q : NestedKey × Addr × Value) : Prop := p.1 = q.1 ∧ keyN p.2.1 = some p.1 ∧ Rep K W p.2.1 (.ref q.2.1) ∧ ∃ u, Rep K W p.2.2 u ∧ RelV u q.2.2
def RepMO (W : Wd) (mo : MO) (a : Addr) (ho : Option HO) : Prop := match mo with
  | .lst ds => ∃ vs, ho = some (.lst vs) ∧ Reps K W ds vs
  | .ins c fs => ∃ dx vs, ho = some (.ins (cl c) dx vs) ∧ RepF K W fs vs
  | .dK kvs => ∃ vs, ho = some (.dK vs) ∧ RepK K W kvs vs
  | .dF kvs => ∃ xs, ho = some (.ext (DfObj cl.w a xs)) ∧ Paired (EntR K W) kvs xs
  | .gone => ∃ o, W.G a = some o
structure HRel (W : Wd) (M : MS) (H : Hp) : Prop where
  gle : ∀ a o, W.G a = some o → H a = some o
  len : W.ι.length = M.length
  obj : ∀ (n : Nat) (mo : MO), M[n]? = some mo → ∃ a, W.ι[n]? = some a ∧ (mo ≠ .gone → W.G a = none) ∧ W.F a = none ∧ RepMO K cl W mo a (H a)
  nd : W.ι.Nodup
  fle : ∀ a o, W.F a = some o → H a = some o ∧ W.G a = none
end
section
variable {K : PySem.W.Frag} {cl : Cl} {W W' : Wd} {M : MS} {H : Hp}
theorem Paired.imp {α β : Type} {R S : α → β → Prop} (f : ∀ a b, R a b → S a b) : ∀ {l : List α} {m : List β}, Paired R l m → Paired S l m
  | _, _, .nil => .nil
  | _, _, .cons r t => .cons (f _ _ r) (Paired.imp f t)
theorem RepMO.upv (l : W.vle W') {mo : MO} {a : Addr} {ho : Option HO} (h : RepMO K cl W mo a ho) : RepMO K cl W' mo a ho := by
  cases mo with
  | lst ds => obtain ⟨vs, e, r⟩ := h; exact ⟨vs, e, r.upv l⟩
  | ins c fs => obtain ⟨dx, vs, e, r⟩ := h; exact ⟨dx, vs, e, Paired.imp (fun _ _ q => ⟨q.1, q.2.upv l⟩) r⟩
  | dK kvs => obtain ⟨vs, e, r⟩ := h; exact ⟨vs, e, Paired.imp (fun _ _ q => ⟨q.1, q.2.upv l⟩) r⟩
  | dF kvs =>
    obtain ⟨es, e, r⟩ := h
    exact ⟨es, e, Paired.imp (fun _ _ ⟨a, b, c, u, d, f⟩ => ⟨a, b, c.upv l, u, d.upv l, f⟩) r⟩
  | gone => obtain ⟨o, e⟩ := h; exact ⟨o, l.g _ _ e⟩
theorem RepMO.up (l : W.le W') {mo : MO} {a : Addr} {ho : Option HO} (h : RepMO K cl W mo a ho) : RepMO K cl W' mo a ho := h.upv l.v
theorem RepMO.some {mo : MO} {a : Addr} {ho : Option HO} (hg : ∀ o, W.G a = .some o → ho = .some o) (h : RepMO K cl W mo a ho) : ∃ o, ho = .some o := by
  cases mo with
  | lst ds => obtain ⟨vs, e, r⟩ := h; exact ⟨_, e⟩
  | ins c fs => obtain ⟨dx, vs, e, r⟩ := h; exact ⟨_, e⟩
  | dK kvs => obtain ⟨vs, e, r⟩ := h; exact ⟨_, e⟩
  | dF kvs => obtain ⟨es, e, r⟩ := h; exact ⟨_, e⟩
  | gone => obtain ⟨o, e⟩ := h; exact ⟨o, hg _ e⟩
theorem HRel.gnone (h : HRel K cl W M H) {p : Addr} (hp : H p = none) : W.G p = none := by
  cases e : W.G p with
  | none => rfl
  | some o => rw [h.gle _ _ e] at hp; cases hp
theorem HRel.ιsome (h : HRel K cl W M H) {n : Nat} {a : Addr} (e : W.ι[n]? = some a) : ∃ mo o, M[n]? = some mo ∧ H a = some o := by
  have hn : n < M.length := by rw [← h.len]; exact (List.getElem?_eq_some_iff.mp e).1
  obtain ⟨b, eb, _, _, r⟩ := h.obj n M[n] (by simp [hn])
  rw [e] at eb
  have hb := Option.some.inj eb
  subst hb
  obtain ⟨o, ho⟩ := r.some (h.gle a)
  exact ⟨M[n], o, by simp [hn], ho⟩
theorem HRel.fnone (h : HRel K cl W M H) {p : Addr} (hp : H p = none) : W.F p = none := by
  cases e : W.F p with
  | none => rfl
  | some o => rw [(h.fle _ _ e).1] at hp; cases hp
/-- a new thing is frozen -/
theorem HRel.frz {p : Addr} {o : HO} (h : HRel K cl W M H) (hp : H p = none) : W.le ⟨W.ι, upd W.G p o, W.F⟩ ∧ HRel K cl ⟨W.ι, upd W.G p o, W.F⟩ M (upd H p o) := by
  have hg := h.gnone hp
  have l : W.le ⟨W.ι, upd W.G p o, W.F⟩ := ⟨fun _ _ e => e, fun a u e => by
    show upd W.G p o a = some u
    rw [upd_ne (ne_of_none e hg)]; exact e, fun _ _ e => e⟩
  refine ⟨l, ⟨fun a u e => ?_, h.len, fun n mo e => ?_, h.nd, fun a u e => ?_⟩⟩
  · by_cases q : a = p
    · subst q
      have e' : upd W.G a o a = some u := e
      rw [upd_same] at e' ⊢; exact e'
    · have e' : upd W.G p o a = some u := e
      rw [upd_ne q] at e' ⊢
      exact h.gle _ _ e'
  · obtain ⟨a, e1, e2, e3, r⟩ := h.obj n mo e
    obtain ⟨mo', o', _, e4⟩ := h.ιsome e1
    have ne : a ≠ p := ne_of_none e4 hp
    refine ⟨a, e1, fun z => ?_, e3, ?_⟩
    · show upd W.G p o a = none
      rw [upd_ne ne]; exact e2 z
    · rw [upd_ne ne]
      exact r.up l
  · have q := h.fle a u e
    have ne : a ≠ p := ne_of_none q.1 hp
    refine ⟨by rw [upd_ne ne]; exact q.1, ?_⟩
    show upd W.G p o a = none
    rw [upd_ne ne]; exact q.2
/-- something new stands still, out of sight -/
theorem HRel.hold {p : Addr} {o : HO} (h : HRel K cl W M H) (hp : H p = none) : W.le ⟨W.ι, W.G, upd W.F p o⟩ ∧ HRel K cl ⟨W.ι, W.G, upd W.F p o⟩ M (upd H p o) := by
  have hf := h.fnone hp
  have l : W.le ⟨W.ι, W.G, upd W.F p o⟩ := ⟨fun _ _ e => e, fun _ _ e => e, fun a u e => by
    show upd W.F p o a = some u
    rw [upd_ne (ne_of_none e hf)]; exact e⟩
  refine ⟨l, ⟨fun a u e => ?_, h.len, fun n mo e => ?_, h.nd, fun a u e => ?_⟩⟩
  · have q := h.gle a u e
    rw [upd_ne (ne_of_none q hp)]; exact q
  · obtain ⟨a, e1, e2, e3, r⟩ := h.obj n mo e
    obtain ⟨mo', o', _, e4⟩ := h.ιsome e1
    have ne : a ≠ p := ne_of_none e4 hp
    refine ⟨a, e1, e2, ?_, ?_⟩
    · show upd W.F p o a = none
      rw [upd_ne ne]; exact e3
    · rw [upd_ne ne]
      exact r.up l
  · by_cases q : a = p
    · subst q
      have e' : upd W.F a o a = some u := e
      rw [upd_same] at e' ⊢
      exact ⟨e', h.gnone hp⟩
    · have e' : upd W.F p o a = some u := e
      rw [upd_ne q] at e' ⊢
      exact h.fle a u e'
/-- what stood still out of sight is changed -/
theorem HRel.held {p : Addr} {o u : HO} (h : HRel K cl W M H) (hp : W.F p = some u) : HRel K cl ⟨W.ι, W.G, upd W.F p o⟩ M (upd H p o) := by
  obtain ⟨hH, hG⟩ := h.fle _ _ hp
  refine ⟨fun a u e => ?_, h.len, fun n mo e => ?_, h.nd, fun a u e => ?_⟩
  · rw [upd_ne (ne_of_none e hG)]; exact h.gle a u e
  · obtain ⟨a, e1, e2, e3, r⟩ := h.obj n mo e
    have ne : a ≠ p := fun z => by subst z; rw [e3] at hp; cases hp
    refine ⟨a, e1, e2, ?_, ?_⟩
    · show upd W.F p o a = none
      rw [upd_ne ne]; exact e3
    · rw [upd_ne ne]
      exact RepMO.upv (W := W) (W' := ⟨W.ι, W.G, upd W.F p o⟩) ⟨fun _ _ e => e, fun _ _ e => e⟩ r
  · by_cases q : a = p
    · subst q
      have e' : upd W.F a o a = some u := e
      rw [upd_same] at e' ⊢
      exact ⟨e', hG⟩
    · have e' : upd W.F p o a = some u := e
      rw [upd_ne q] at e' ⊢
      exact h.fle a u e'
/-- a new object that may change -/
theorem HRel.new {p : Addr} {o : HO} {mo : MO} (h : HRel K cl W M H) (hp : H p = none) (hm : mo ≠ .gone) (r : RepMO K cl ⟨W.ι ++ [p], W.G, W.F⟩ mo p (some o)) :
    W.le ⟨W.ι ++ [p], W.G, W.F⟩ ∧ HRel K cl ⟨W.ι ++ [p], W.G, W.F⟩ (M ++ [mo]) (upd H p o) ∧ (W.ι ++ [p])[M.length]? = some p := by
  have l : W.le ⟨W.ι ++ [p], W.G, W.F⟩ := ⟨fun n a e => by
    show (W.ι ++ [p])[n]? = some a
    rw [List.getElem?_append_left (List.getElem?_eq_some_iff.mp e).1]; exact e, fun _ _ e => e, fun _ _ e => e⟩
  have hlast : (W.ι ++ [p])[M.length]? = some p := by rw [← h.len]; simp
  refine ⟨l, ⟨fun a u e => ?_, ?_, fun n mo' e => ?_, ?_, fun a u e => ?_⟩, hlast⟩
  · rw [upd_ne (ne_of_none (h.gle _ _ e) hp)]
    exact h.gle _ _ e
  · show (W.ι ++ [p]).length = (M ++ [mo]).length
    simp [h.len]
  · by_cases hn : n < M.length
    · rw [List.getElem?_append_left hn] at e
      obtain ⟨a, e1, e2, e3, r'⟩ := h.obj n mo' e
      obtain ⟨_, o', _, e4⟩ := h.ιsome e1
      refine ⟨a, l.i _ _ e1, e2, e3, ?_⟩
      rw [upd_ne (ne_of_none e4 hp)]
      exact r'.up l
    · have hn' : n = M.length := by
        have := (List.getElem?_eq_some_iff.mp e).1
        simp at this
        omega
      subst hn'
      have e' : mo' = mo := by simpa using e.symm
      subst e'
      refine ⟨p, hlast, fun _ => h.gnone hp, h.fnone hp, ?_⟩
      rw [upd_same]; exact r
  · show (W.ι ++ [p]).Nodup
    rw [List.nodup_append]
    refine ⟨h.nd, by simp, fun a ha b hb => ?_⟩
    have : b = p := by simpa using hb
    subst this
    obtain ⟨n, hn, e⟩ := List.mem_iff_getElem.mp ha
    obtain ⟨_, o', _, e4⟩ := h.ιsome (n := n) (a := a) (by simp [hn, e])
    exact ne_of_none e4 hp
  · have q := h.fle a u e
    rw [upd_ne (ne_of_none q.1 hp)]; exact q
/-- an object changes -/
theorem HRel.set {n : Nat} {a : Addr} {o : HO} {mo mo' : MO} (h : HRel K cl W M H) (e : M[n]? = some mo) (hm : mo ≠ .gone) (hm' : mo' ≠ .gone) (ea : W.ι[n]? = some a) (r : RepMO K cl W mo' a (some o)) :
    HRel K cl W (M.set n mo') (upd H a o) := by
  obtain ⟨b, eb, gb, fb, _⟩ := h.obj n mo e
  rw [ea] at eb
  have hb := Option.some.inj eb
  subst hb
  have ga := gb hm
  refine ⟨fun x u ex => ?_, by simp [h.len], fun k mk ek => ?_, h.nd, fun x u ex => ?_⟩
  · rw [upd_ne (ne_of_none ex ga)]
    exact h.gle _ _ ex
  · by_cases hk : k = n
    · subst hk
      have hlt : k < M.length := (List.getElem?_eq_some_iff.mp e).1
      rw [List.getElem?_set_self hlt] at ek
      have := Option.some.inj ek
      subst this
      exact ⟨a, ea, fun _ => ga, fb, by rw [upd_same]; exact r⟩
    · rw [List.getElem?_set_ne (Ne.symm hk)] at ek
      obtain ⟨c, ec, gc, fc, rc⟩ := h.obj k mk ek
      have hne : c ≠ a := by
        intro z
        subst z
        obtain ⟨h1, q1⟩ := List.getElem?_eq_some_iff.mp ec
        obtain ⟨h2, q2⟩ := List.getElem?_eq_some_iff.mp ea
        exact hk ((List.getElem_inj h.nd).mp (q1.trans q2.symm))
      exact ⟨c, ec, gc, fc, by rw [upd_ne hne]; exact rc⟩
  · rw [upd_ne (ne_of_none ex fb)]
    exact h.fle _ _ ex
end

/-! ### what is wanted behind a piece -/
/-- an exception's own dict holds its argument -/
def ExR (K : PySem.W.Frag) (W : Wd) (x : Ex) (dx : Option Addr) (H : Hp) : Prop := match x.arg with
  | none => dx = none
  | some d => ∃ a v, dx = some a ∧ H a = some (.xd [("line", v)]) ∧ Rep K W d v
section
variable (K : PySem.W.Frag) (cl : Cl) (E : XK)
def Post {α β : Type} (R : Wd → α → β → Prop) (W : Wd) (r : Out α) (Q : β → Hp → Prop) : Prop := match r with
  | none => False
  | some (.ok d, M') => ∀ W' H' v, W.le W' → R W' d v → HRel K cl W' M' H' → Q v H'
  | some (.error x, M') => ∀ W' H' dx, W.le W' → HRel K cl W' M' H' → ExR K W' x dx H' → E (.ref (cl x.cls)) dx H'
def RhoR (W : Wd) (σ : L2.St) (ρ : Rho) : Prop := σ.length = ρ.length ∧ ∀ (i : Nat) d, ρ[i]? = some (some d) → ∃ v, σ[i]? = some (some v) ∧ Rep K W d v
/-- the reading of an expression by what it makes of plain values -/
def tD (m : Rho → Mo D) : TE := fun σ H Q => ∃ ρ M W, RhoR K W σ ρ ∧ HRel K cl W M H ∧ Post K cl E (Rep K) W (m ρ M) Q
def tT (m : Rho → Mo Bool) : TT := fun σ H Q => ∃ ρ M W, RhoR K W σ ρ ∧ HRel K cl W M H ∧ Post K cl E (fun _ (a b : Bool) => a = b) W (m ρ M) Q
def tA (m : Rho → Mo (List D)) : TA := fun σ H Q => ∃ ρ M W, RhoR K W σ ρ ∧ HRel K cl W M H ∧ Post K cl E (Reps K) W (m ρ M) Q
end
inductive Fl where
  | nx (ρ : Rho) | rt (d : D) | bk (ρ : Rho) | ct (ρ : Rho)
section
variable (K : PySem.W.Frag) (cl : Cl) (E : XK)
def FlR (Dn : Ends) (W : Wd) (H : Hp) : Fl → Prop
  | .nx ρ => ∀ σ, RhoR K W σ ρ → Dn.nx σ H
  | .rt d => ∀ v, Rep K W d v → Dn.rt v H
  | .bk ρ => ∀ σ, RhoR K W σ ρ → Dn.bk σ H
  | .ct ρ => ∀ σ, RhoR K W σ ρ → Dn.ct σ H
def PostS (W : Wd) (r : Out Fl) (Dn : Ends) : Prop := match r with
  | none => False
  | some (.ok f, M') => ∀ W' H', W.le W' → HRel K cl W' M' H' → FlR K Dn W' H' f
  | some (.error x, M') => ∀ W' H' dx, W.le W' → HRel K cl W' M' H' → ExR K W' x dx H' → E (.ref (cl x.cls)) dx H'
def tS (m : Rho → Mo Fl) : TS := fun Dn σ H => ∃ ρ M W, RhoR K W σ ρ ∧ HRel K cl W M H ∧ PostS K cl E W (m ρ M) Dn
end
section
variable {K : PySem.W.Frag} {cl : Cl} {E : XK}
theorem RhoR.up {W W' : Wd} {σ : L2.St} {ρ : Rho} (h : RhoR K W σ ρ) (l : W.le W') : RhoR K W' σ ρ := ⟨h.1, fun i d e => let ⟨v, a, b⟩ := h.2 i d e; ⟨v, a, b.up l⟩⟩
theorem RhoR.upv {W W' : Wd} {σ : L2.St} {ρ : Rho} (h : RhoR K W σ ρ) (l : W.vle W') : RhoR K W' σ ρ := ⟨h.1, fun i d e => let ⟨v, a, b⟩ := h.2 i d e; ⟨v, a, b.upv l⟩⟩
theorem RhoR.set {W : Wd} {σ : L2.St} {ρ : Rho} {d : D} {v : V} (h : RhoR K W σ ρ) (r : Rep K W d v) (i : Nat) : RhoR K W (σ.set i (some v)) (ρ.set i (some d)) := by
  refine ⟨by simp [h.1], fun j e q => ?_⟩
  by_cases hj : j = i
  · subst hj
    have hlt : j < ρ.length := by
      have := (List.getElem?_eq_some_iff.mp q).1
      simpa using this
    rw [List.getElem?_set_self hlt] at q
    have := Option.some.inj (Option.some.inj q)
    subst this
    exact ⟨v, by rw [List.getElem?_set_self (by rw [h.1]; exact hlt)], r⟩
  · rw [List.getElem?_set_ne (Ne.symm hj)] at q ⊢
    exact h.2 j e q
theorem Post.up {α β : Type} {R : Wd → α → β → Prop} {W W' : Wd} {r : Out α} {Q : β → Hp → Prop} (h : Post K cl E R W r Q) (l : W.le W') : Post K cl E R W' r Q := by
  cases r with
  | none => exact h
  | some r =>
    obtain ⟨r, M'⟩ := r
    cases r with
    | ok d => exact fun W2 H2 v l2 => h W2 H2 v (l.trans l2)
    | error x => exact fun W2 H2 dx l2 => h W2 H2 dx (l.trans l2)
theorem PostS.up {W W' : Wd} {r : Out Fl} {Dn : Ends} (h : PostS K cl E W r Dn) (l : W.le W') : PostS K cl E W' r Dn := by
  cases r with
  | none => exact h
  | some r =>
    obtain ⟨r, M'⟩ := r
    cases r with
    | ok d => exact fun W2 H2 l2 => h W2 H2 (l.trans l2)
    | error x => exact fun W2 H2 dx l2 => h W2 H2 dx (l.trans l2)
/-- a piece, and what follows it -/
theorem Post.seq {α β γ δ : Type} {R : Wd → α → β → Prop} {S : Wd → γ → δ → Prop} {W : Wd} {M : MS} {m : Mo α} {f : α → Mo γ} {Q : δ → Hp → Prop} {Q' : β → Hp → Prop} (h : Post K cl E S W (Mo.bnd m f M) Q)
    (k : ∀ a M' W' H' v, W.le W' → R W' a v → HRel K cl W' M' H' → Post K cl E S W' (f a M') Q → Q' v H') : Post K cl E R W (m M) Q' := by
  unfold Mo.bnd at h
  cases e : m M with
  | none => rw [e] at h; exact h
  | some r =>
    rw [e] at h
    obtain ⟨r, M'⟩ := r
    cases r with
    | ok a => exact fun W' H' v l r hr => k a M' W' H' v l r hr (h.up l)
    | error x => exact h
theorem PostS.seq {α β : Type} {R : Wd → α → β → Prop} {W : Wd} {M : MS} {m : Mo α} {f : α → Mo Fl} {Dn : Ends} {Q' : β → Hp → Prop} (h : PostS K cl E W (Mo.bnd m f M) Dn)
    (k : ∀ a M' W' H' v, W.le W' → R W' a v → HRel K cl W' M' H' → PostS K cl E W' (f a M') Dn → Q' v H') : Post K cl E R W (m M) Q' := by
  unfold Mo.bnd at h
  cases e : m M with
  | none => rw [e] at h; exact h
  | some r =>
    rw [e] at h
    obtain ⟨r, M'⟩ := r
    cases r with
    | ok a => exact fun W' H' v l r hr => k a M' W' H' v l r hr (h.up l)
    | error x => exact h
end
/-! ### weaker readings -/
section
variable {X : Cx} {e : Expr}
theorem PE.imp {t t' : TE} (h : PE X e t) (f : ∀ σ H Q, t' σ H Q → t σ H Q) : PE X e t' := ⟨fun pins s σ H Q I q => h.run pins s σ H Q I (f _ _ _ q)⟩
theorem PT.imp {t t' : TT} (h : PT X e t) (f : ∀ σ H Q, t' σ H Q → t σ H Q) : PT X e t' := ⟨fun pins s σ H Q I q => h.run pins s σ H Q I (f _ _ _ q)⟩
theorem PW.imp {t t' : TT} (h : PW X e t) (f : ∀ σ H Q, t' σ H Q → t σ H Q) : PW X e t' := ⟨fun wh pins s σ H Q I q => h.run wh pins s σ H Q I (f _ _ _ q)⟩
theorem PA.imp {es : List Expr} {t t' : TA} (h : PA X es t) (f : ∀ σ H Q, t' σ H Q → t σ H Q) : PA X es t' := ⟨fun pos pins s σ H Q I q => h.run pos pins s σ H Q I (f _ _ _ q)⟩
theorem PS.imp {st : Stmt} {t t' : TS} (h : PS X st t) (f : ∀ D σ H, t' D σ H → t D σ H) : PS X st t' := ⟨fun pins s σ H D I q => h.run pins s σ H D I (f _ _ _ q)⟩
theorem PSs.imp {st : List Stmt} {t t' : TS} (h : PSs X st t) (f : ∀ D σ H, t' D σ H → t D σ H) : PSs X st t' := ⟨fun pins s σ H D I q => h.run pins s σ H D I (f _ _ _ q)⟩
theorem OpR.imp {f : Value → Value → Sem Value} {r r' : R2} (h : OpR X f r) (k : ∀ x y H Q, r' x y H Q → r x y H Q) : OpR X f r' := fun pins s σ H x y v u Q I a b q => h pins s σ H x y v u Q I a b (k _ _ _ _ q)
theorem UnR.imp {f : Value → Sem Value} {r r' : V → Hp → VK → Prop} (h : UnR X f r) (k : ∀ x H Q, r' x H Q → r x H Q) : UnR X f r' := fun pins s σ H x v Q I a q => h pins s σ H x v Q I a (k _ _ _ q)
theorem CallR.imp {f : Value} {r r' : List V → Hp → VK → Prop} (h : CallR X f r) (k : ∀ x H Q, r' x H Q → r x H Q) : CallR X f r' := fun pins s σ H x v Q I a q => h pins s σ H x v Q I a (k _ _ _ q)
theorem IxR.imp {r r' : R2} (h : IxR X r) (k : ∀ x y H Q, r' x y H Q → r x y H Q) : IxR X r' := fun va sl pins s σ H x y v u Q I a b q => h va sl pins s σ H x y v u Q I a b (k _ _ _ _ q)
theorem MtR.imp {id : String} {r r' : V → List V → Hp → VK → Prop} (h : MtR X id r) (k : ∀ x xs H Q, r' x xs H Q → r x xs H Q) : MtR X id r' := fun pins s σ H x xs v us Q I a b q => h pins s σ H x xs v us Q I a b (k _ _ _ _ q)
theorem SlR.imp {r r' : V → Option Int → Option Int → Hp → VK → Prop} (h : SlR X r) (k : ∀ x lo hi H Q, r' x lo hi H Q → r x lo hi H Q) : SlR X r' := fun pins s σ H x v vl vu lo hi sl Q I a b c d q => h pins s σ H x v vl vu lo hi sl Q I a b c d (k _ _ _ _ _ q)
end
end DL

/-! DL: tuples of which it is known that they carry no dict of their own: what makes them. -/
namespace DL
open PySem PySem.Spec PyProof.Rows L2
section
variable {P : Program} {w : World} {H : Hp} {h : Heap} {a : Addr}
abbrev tupO (its : List Value) : Obj := { cls := .type "tuple", data := .seq its.toArray }
theorem tupO_ok {its : List Value} {vs : List V} (e : h.get? a = some (tupO its)) (r : Vals vs its) (hz : vs.length ≤ sizeLine) : ObjOk P w H h a (.frz (tupO its) (.tup vs)) := ⟨e, hz, its, r, ⟨_, e, rfl, _, rfl⟩⟩
end
section
variable {X : Cx} {pins : List (Addr × Obj)} {σ : L2.St} {H : Hp} {s : Shared}
/-- a new tuple -/
theorem Inv.tnew {its : List Value} {vs : List V} {g' : Heap} (I : Inv X pins σ H s) (r : Vals vs its) (hz : vs.length ≤ sizeLine) (k : ∀ b o, s.heap.get? b = some o → g'.get? b = some o) (t : Nat) :
    H g'.objs.size = none ∧ Inv X pins σ (upd H g'.objs.size (.frz (tupO its) (.tup vs))) { s with heap := g'.push (tupO its), toks := t } := by
  have I1 : Inv X pins σ H { s with heap := g', toks := t } := I.kept k
  exact ⟨I1.hok.fresh (Nat.le_refl _), I1.laid (t' := t) (fun b o e => Heap.get?_push_of_some _ e) (Nat.le_refl _) (tupO_ok (Heap.get?_push_size _ rfl) r hz)⟩
/-- a tuple's content may be told of a list of things to come -/
abbrev NewT (Q : VK) (H : Hp) (xs : List V) : Prop := ∀ p o, o.dict = none → H p = none → Q (.ref p) (upd H p (.frz o (.tup xs)))
theorem pe_tupN {es : List Expr} {x1 : Nat} {pos : Pos} {t : TA} (h : PA X es t) : PE X (.Tuple es x1 pos) (fun σ H Q => t σ H fun xs H1 => xs.length ≤ sizeLine ∧ NewT Q H1 xs) := by
  refine ⟨fun pins s σ H Q I hq => wpAny_Tuple_spliced (thn (h.run pos pins s σ H _ I hq) fun us s1 ⟨xs, H1, I1, r, z, q⟩ => ⟨by rw [← r.length]; exact z, ?_⟩)⟩
  obtain ⟨n1, J⟩ := Inv.tnew (g' := s1.heap) I1 r z (fun _ _ e => e) s1.toks
  exact ⟨.ref _, _, J, rfl, q _ _ rfl n1⟩
theorem call_tupN : CallR X (.type "tuple") (fun xs H Q => ∃ p ys, xs = [.ref p] ∧ ((SqL X.K H p ys ∧ NewT Q H ys) ∨ (SqT X.K H p ys ∧ Q (.ref p) H))) := by
  intro pins s σ H xs us Q I r ⟨p, ys, e, hh⟩
  subst e
  obtain ⟨u, rfl, rx⟩ := vals1 r
  cases rx
  rcases hh with ⟨hq, q⟩ | ⟨hq, q⟩
  · obtain ⟨its, rv, pl, hz⟩ := I.list hq
    refine call_tuple_list pl.isList (fun g' kp => ?_) (by rw [List.size_toArray, ← rv.length]; exact hz)
    obtain ⟨n1, J⟩ := Inv.tnew (g' := g') I rv hz kp s.toks
    exact ⟨.ref _, _, J, rfl, q _ _ rfl n1⟩
  · obtain ⟨its, rv, pl, hz⟩ := I.tuple hq
    exact call_tuple_same pl ⟨.ref p, H, I, rfl, q⟩
theorem op_catN : OpR X (binaryOp .Add) (fun x y H Q => ∃ a b xs ys, x = .ref a ∧ y = .ref b ∧ SqT X.K H a xs ∧ SqT X.K H b ys ∧ xs.length + ys.length ≤ sizeLine ∧ (xs = [] → Q (.ref b) H) ∧ (xs ≠ [] → ys = [] → Q (.ref a) H) ∧ (xs ≠ [] → ys ≠ [] → NewT Q H (xs ++ ys))) := by
  intro pins s σ H x y v u Q I rx ry ⟨a, b, xs, ys, ex, ey, ha, hb, hz, q0, q1, q2⟩
  subst ex
  subst ey
  cases rx
  cases ry
  obtain ⟨i1, r1, p1, _⟩ := I.tuple ha
  obtain ⟨i2, r2, p2, _⟩ := I.tuple hb
  by_cases hx : xs = []
  · subst hx
    cases r1
    exact cat_tup0 p1 p2 ⟨.ref b, H, I, rfl, q0 rfl⟩
  · refine HT.cat_tup p1 p2 (fun z => hx (r1.nil_iff.mp z)) (fun z => ⟨.ref a, H, I, rfl, q1 hx (r2.nil_iff.mp z)⟩) (fun z => ?_) (by rw [← r1.length, ← r2.length]; exact hz)
    obtain ⟨n1, J⟩ := Inv.tnew (g' := s.heap) I (r1.append r2) (by rw [List.length_append]; exact hz) (fun _ _ e => e) s.toks
    exact ⟨.ref _, _, J, rfl, q2 hx (fun w => z (r2.nil_iff.mpr w)) _ _ rfl n1⟩
theorem sl_tupN : SlR X (fun x lo hi H Q => ∃ a xs, x = .ref a ∧ SqT X.K H a xs ∧ (HT.sIx xs.length 0 lo = 0 ∧ HT.sIx xs.length xs.length hi = xs.length → Q (.ref a) H) ∧ (¬ (HT.sIx xs.length 0 lo = 0 ∧ HT.sIx xs.length xs.length hi = xs.length) → NewT Q H (cutV xs lo hi))) := by
  intro pins s σ H x v vl vu lo hi sl Q I rx hs pl pu ⟨a, xs, ex, hx, q1, q2⟩
  subst ex
  cases rx
  obtain ⟨its, r, ht, hz⟩ := I.tuple hx
  have hlen : its.toArray.size = xs.length := by rw [List.size_toArray]; exact r.length.symm
  refine ⟨"tuple", _, PyProof.Rows.slot_tuple_getitem.lookup, ht.typeIs, ?_⟩
  by_cases hw : HT.sIx xs.length 0 lo = 0 ∧ HT.sIx xs.length xs.length hi = xs.length
  · exact getItem_tuple_whole ht hs pl pu (by rw [hlen]; exact hw) ⟨.ref a, H, I, rfl, q1 hw⟩
  · refine HT.getItem_tuple_cut ht hs pl pu (by rw [hlen]; exact hw) ?_ (by rw [hlen]; exact hz)
    rw [hlen]
    obtain ⟨n1, J⟩ := Inv.tnew (g' := s.heap) I ((r.drop (HT.sIx xs.length 0 lo)).take (HT.sIx xs.length xs.length hi - HT.sIx xs.length 0 lo)) (Nat.le_trans (cutV_length xs lo hi) hz) (fun _ _ e => e) s.toks
    exact ⟨.ref _, _, J, rfl, q2 hw _ _ rfl n1⟩
end
end DL

/-! DL: expressions, tests, operators. -/
namespace DL
open PySem PySem.Spec PyProof.Rows L2

section
variable (X : Cx) (cl : Cl) (E : XK)
abbrev PD (e : Expr) (m : Rho → Mo D) : Prop := PE X e (tD X.K cl E m)
abbrev PDT (e : Expr) (m : Rho → Mo Bool) : Prop := PT X e (tT X.K cl E m)
abbrev PDW (e : Expr) (m : Rho → Mo Bool) : Prop := PW X e (tT X.K cl E m)
abbrev PDA (es : List Expr) (m : Rho → Mo (List D)) : Prop := PA X es (tA X.K cl E m)
end
/-! ### what the pieces make -/
abbrev XE := Rho → Mo D
def eV (i : Nat) : XE := fun ρ => Mo.opt (ρ[i]?.join)
def eC (d : D) : XE := fun _ => Mo.ret d
def e1 (g : D → Mo D) (a : XE) : XE := fun ρ => Mo.bnd (a ρ) g
def e2 (g : D → D → Mo D) (a b : XE) : XE := fun ρ => Mo.bnd (a ρ) fun x => Mo.bnd (b ρ) fun y => g x y
def aL : List XE → Rho → Mo (List D)
  | [], _ => Mo.ret []
  | x :: xs, ρ => Mo.bnd (x ρ) fun d => Mo.bnd (aL xs ρ) fun ds => Mo.ret (d :: ds)
def eTup (xs : List XE) : XE := fun ρ => Mo.bnd (aL xs ρ) fun ds => Mo.ret (.tup ds)
def eLst (xs : List XE) : XE := fun ρ => Mo.bnd (aL xs ρ) fun ds => Mo.ret (.lst ds)
def newO (mo : MO) : Mo D := fun M => some (.ok (.obj M.length), M ++ [mo])
def eLstM (xs : List XE) : XE := fun ρ => Mo.bnd (aL xs ρ) fun ds => newO (.lst ds)
def eB (g : List D → Mo D) (xs : List XE) : XE := fun ρ => Mo.bnd (aL xs ρ) g
def bOf : D → Mo Bool
  | .bl b => Mo.ret b
  | _ => Mo.stop
def tV (m : XE) : Rho → Mo Bool := fun ρ => Mo.bnd (m ρ) bOf
def tAn (a b : Rho → Mo Bool) : Rho → Mo Bool := fun ρ => Mo.bnd (a ρ) fun c => if c = true then b ρ else Mo.ret false
def tOrr (a b : Rho → Mo Bool) : Rho → Mo Bool := fun ρ => Mo.bnd (a ρ) fun c => if c = true then Mo.ret true else b ρ
def tNo (a : Rho → Mo Bool) : Rho → Mo Bool := fun ρ => Mo.bnd (a ρ) fun c => Mo.ret (!c)
def eIf (t : Rho → Mo Bool) (a b : XE) : XE := fun ρ => Mo.bnd (t ρ) fun c => if c = true then a ρ else b ρ
def eAn (a b : XE) : XE := fun ρ => Mo.bnd (a ρ) fun d => Mo.bnd (bOf d) fun c => if c = true then b ρ else Mo.ret (.bl false)
def eOrr (a b : XE) : XE := fun ρ => Mo.bnd (a ρ) fun d => Mo.bnd (bOf d) fun c => if c = true then Mo.ret (.bl true) else b ρ
def eNo (a : XE) : XE := fun ρ => Mo.bnd (a ρ) fun d => Mo.bnd (bOf d) fun c => Mo.ret (.bl (!c))

section
variable {K : PySem.W.Frag} {cl : Cl} {E : XK}
theorem Post.of_opt {α β : Type} {R : Wd → α → β → Prop} {W : Wd} {M : MS} {o : Option α} {Q : β → Hp → Prop} (h : Post K cl E R W (Mo.opt o M) Q) : ∃ a, o = some a ∧ ∀ W' H' v, W.le W' → R W' a v → HRel K cl W' M H' → Q v H' := by
  cases o with
  | none => exact h.elim
  | some a => exact ⟨a, rfl, h⟩
theorem join_some {ρ : Rho} {i : Nat} {d : D} (h : ρ[i]?.join = some d) : ρ[i]? = some (some d) := by
  cases e : ρ[i]? with
  | none => rw [e] at h; cases h
  | some o => rw [e] at h; rw [show o = some d from h]
end

section
variable {X : Cx} {cl : Cl} {E : XK} {pos : Pos} {a b c e : Expr} {es : List Expr} {ma mb mc : XE}
theorem pd_v (i : Nat) {x : Str} (hN : X.N[i]? = some x := by rfl) (hv : Vis X.env.scope x := by first | exact Or.inl rfl | exact Or.inr (Or.inl rfl) | exact Or.inr (Or.inr rfl)) (hd : (x == ("__debug__" : Str)) = false := by decide)
    (hcd : (x == ("__classdict__" : Str)) = false := by decide) : PD X cl E (.Name x pos) (eV i) := PE.imp (pe_var hN hv hd hcd) fun σ H Q ⟨ρ, M, W, hρ, hH, hp⟩ => by
  obtain ⟨d, e, k⟩ := hp.of_opt
  obtain ⟨v, ev, rv⟩ := hρ.2 i d (join_some e)
  exact ⟨v, ev, k W H v (.refl W) rv hH⟩
theorem pd_const {d : D} {v : V} (h : PE X e (tC v)) (r : ∀ W, Rep X.K W d v) : PD X cl E e (eC d) := PE.imp h fun σ H Q ⟨ρ, M, W, hρ, hH, hp⟩ => hp W H v (.refl W) (r W) hH
theorem pd_int {i j} : PD X cl E (.Constant (.int i) j pos) (eC (.int i)) := pd_const pe_int fun _ => rfl
theorem pd_bl {i j} : PD X cl E (.Constant (.bool i) j pos) (eC (.bl i)) := pd_const pe_bl fun _ => rfl
theorem pd_non {j} : PD X cl E (.Constant .none j pos) (eC .non) := pd_const pe_non fun _ => rfl
theorem pd_str {i j} : PD X cl E (.Constant (.str i) j pos) (eC (.str i)) := pd_const pe_str fun _ => rfl
theorem pd_glob {x : Str} {u : Value} {v : V} {d : D} (hg : Gl X x) (hm : X.mg x = some u) (r : RelV v u) (hc : ∀ W, Rep X.K W d v) (hd : (x == ("__debug__" : Str)) = false := by decide) : PD X cl E (.Name x pos) (eC d) := pd_const (pe_glob hg hm r hd) hc

/-! ### argument lists, displays -/
theorem pda_nil : PDA X cl E [] (aL []) := PA.imp pa_nil fun σ H Q ⟨ρ, M, W, hρ, hH, hp⟩ => hp W H [] (.refl W) rfl hH
theorem pda_cons {m : XE} {ms : List XE} (ha : PD X cl E e m) (hr : PDA X cl E es (aL ms)) (hs : starEach (e :: es) X.env = (false, eval e X.env) :: starEach es X.env := by rfl) : PDA X cl E (e :: es) (aL (m :: ms)) :=
  PA.imp (pa_cons ha hr hs) fun σ H Q ⟨ρ, M, W, hρ, hH, hp⟩ => ⟨ρ, M, W, hρ, hH, hp.seq fun d M1 W1 H1 v l1 r1 hH1 hp1 => ⟨ρ, M1, W1, hρ.up l1, hH1, hp1.seq fun ds M2 W2 H2 vs l2 r2 hH2 hp2 => hp2 W2 H2 _ (.refl W2) ⟨v, vs, rfl, r1.up l2, r2⟩ hH2⟩⟩
theorem aL_len : ∀ {ms : List XE} {ρ : Rho} {M M' : MS} {ds : List D}, aL ms ρ M = some (.ok ds, M') → ds.length = ms.length
  | [], _, _, _, _, h => by cases h; rfl
  | m :: ms, ρ, M, M', ds, h => by
    obtain ⟨d, M1, _, h1⟩ := Mo.bnd_ok h
    obtain ⟨ds2, M2, e2, h2⟩ := Mo.bnd_ok h1
    cases h2
    rw [List.length_cons, List.length_cons, aL_len e2]
theorem Post.seqL {γ δ : Type} {S : Wd → γ → δ → Prop} {W : Wd} {M : MS} {ms : List XE} {ρ : Rho} {f : List D → Mo γ} {Q : δ → Hp → Prop} {Q' : List V → Hp → Prop} (h : Post X.K cl E S W (Mo.bnd (aL ms ρ) f M) Q)
    (k : ∀ a M' W' H' v, W.le W' → Reps X.K W' a v → a.length = ms.length → HRel X.K cl W' M' H' → Post X.K cl E S W' (f a M') Q → Q' v H') : Post X.K cl E (Reps X.K) W (aL ms ρ M) Q' := by
  unfold Mo.bnd at h
  cases e : aL ms ρ M with
  | none => rw [e] at h; exact h
  | some r =>
    rw [e] at h
    obtain ⟨r, M'⟩ := r
    cases r with
    | ok a => exact fun W' H' v l r hr => k a M' W' H' v l r (aL_len e) hr (h.up l)
    | error x => exact h
theorem HRel.mkTup {W : Wd} {M : MS} {H : Hp} {ds : List D} {vs : List V} {p : Addr} {o : Obj} (h : HRel X.K cl W M H) (r : Reps X.K W ds vs) (ho : o.dict = none) (hp : H p = none) :
    ∃ W', W.le W' ∧ HRel X.K cl W' M (upd H p (.frz o (.tup vs))) ∧ Rep X.K W' (.tup ds) (.ref p) :=
  ⟨_, (h.frz hp).1, (h.frz hp).2, p, vs, rfl, .inl ⟨o, upd_same, ho⟩, r.up (h.frz (o := .frz o (.tup vs)) hp).1⟩
theorem HRel.mkLst {W : Wd} {M : MS} {H : Hp} {ds : List D} {vs : List V} {p : Addr} (h : HRel X.K cl W M H) (r : Reps X.K W ds vs) (hp : H p = none) :
    ∃ W', W.le W' ∧ HRel X.K cl W' M (upd H p (.lst vs)) ∧ Rep X.K W' (.lst ds) (.ref p) :=
  ⟨_, (h.frz hp).1, (h.frz hp).2, p, vs, rfl, Rd.of upd_same, r.up (h.frz (o := .lst vs) hp).1⟩
theorem pd_tup {x1} {ms : List XE} (h : PDA X cl E es (aL ms)) (hz : Nat.ble ms.length 1000 = true := by rfl) : PD X cl E (.Tuple es x1 pos) (eTup ms) :=
  PE.imp (pe_tupN h) fun σ H Q ⟨ρ, M, W, hρ, hH, hp⟩ => ⟨ρ, M, W, hρ, hH, Post.seqL hp fun ds M1 W1 H1 vs l1 r1 z hH1 hp1 => ⟨by
    rw [r1.length, z]; exact Nat.le_of_lt (small1000 (Nat.le_of_ble_eq_true hz)), fun p o ho hn => by
    obtain ⟨W2, l2, h2, r2⟩ := hH1.mkTup r1 ho hn
    exact hp1 W2 _ _ l2 r2 h2⟩⟩
theorem pd_lst {ms : List XE} (h : PDA X cl E es (aL ms)) (hz : Nat.ble ms.length 1000 = true := by rfl) : PD X cl E (.List es pos) (eLst ms) :=
  PE.imp (pe_lst h) fun σ H Q ⟨ρ, M, W, hρ, hH, hp⟩ => ⟨ρ, M, W, hρ, hH, Post.seqL hp fun ds M1 W1 H1 vs l1 r1 z hH1 hp1 => ⟨by
    rw [r1.length, z]; exact Nat.le_of_lt (small1000 (Nat.le_of_ble_eq_true hz)), fun p hn => by
    obtain ⟨W2, l2, h2, r2⟩ := hH1.mkLst r1 hn
    exact hp1 W2 _ _ l2 r2 h2⟩⟩
theorem HRel.mkObj {W : Wd} {M : MS} {H : Hp} {ds : List D} {vs : List V} {p : Addr} (h : HRel X.K cl W M H) (r : Reps X.K W ds vs) (hp : H p = none) :
    ∃ W', W.le W' ∧ HRel X.K cl W' (M ++ [.lst ds]) (upd H p (.lst vs)) ∧ Rep X.K W' (.obj M.length) (.ref p) := by
  have l : W.le ⟨W.ι ++ [p], W.G, W.F⟩ := ⟨fun n a e => by
    show (W.ι ++ [p])[n]? = some a
    rw [List.getElem?_append_left (List.getElem?_eq_some_iff.mp e).1]; exact e, fun _ _ e => e, fun _ _ e => e⟩
  obtain ⟨l1, h1, e1⟩ := h.new (mo := .lst ds) (o := .lst vs) hp (fun z => nomatch z) ⟨vs, rfl, r.up l⟩
  exact ⟨_, l1, h1, p, rfl, e1⟩
theorem pd_lstM {ms : List XE} (h : PDA X cl E es (aL ms)) (hz : Nat.ble ms.length 1000 = true := by rfl) : PD X cl E (.List es pos) (eLstM ms) :=
  PE.imp (pe_lst h) fun σ H Q ⟨ρ, M, W, hρ, hH, hp⟩ => ⟨ρ, M, W, hρ, hH, Post.seqL hp fun ds M1 W1 H1 vs l1 r1 z hH1 hp1 => ⟨by
    rw [r1.length, z]; exact Nat.le_of_lt (small1000 (Nat.le_of_ble_eq_true hz)), fun p hn => by
    obtain ⟨W2, l2, h2, r2⟩ := hH1.mkObj r1 hn
    exact hp1 W2 _ _ l2 r2 h2⟩⟩

/-! ### operators by values -/
variable (X cl E) in
def rD2 (g : D → D → Mo D) : R2 := fun x y H Q => ∃ d e M W, Rep X.K W d x ∧ Rep X.K W e y ∧ HRel X.K cl W M H ∧ Post X.K cl E (Rep X.K) W (g d e M) Q
variable (X cl E) in
def OpD (f : Value → Value → Sem Value) (g : D → D → Mo D) : Prop := OpR X f (rD2 X cl E g)
theorem tOp_of {r : R2} {g : D → D → Mo D} {ta tb : XE} (hr : ∀ x y H Q, rD2 X cl E g x y H Q → r x y H Q) : ∀ σ H Q, tD X.K cl E (e2 g ta tb) σ H Q → tOp r (tD X.K cl E ta) (tD X.K cl E tb) σ H Q :=
  fun σ H Q ⟨ρ, M, W, hρ, hH, hp⟩ => ⟨ρ, M, W, hρ, hH, hp.seq fun d M1 W1 H1 v l1 r1 hH1 hp1 => ⟨ρ, M1, W1, hρ.up l1, hH1, hp1.seq fun d2 M2 W2 H2 v2 l2 r2 hH2 hp2 => hr _ _ _ _ ⟨d, d2, M2, W2, r1.up l2, r2, hH2, hp2⟩⟩⟩
theorem pd_op {op : Operator} {g : D → D → Mo D} (ho : OpD X cl E (binaryOp op) g) (ha : PD X cl E a ma) (hb : PD X cl E b mb) : PD X cl E (.BinOp a op b pos) (e2 g ma mb) := PE.imp (pe_op ho ha hb) (tOp_of fun _ _ _ _ h => h)
theorem pd_cmp {op : CmpOp} {g : D → D → Mo D} (ho : OpD X cl E (compareOp op) g) (ha : PD X cl E a ma) (hb : PD X cl E b mb) (hm : behindInMarks op b = false) : PD X cl E (.Compare a [op] [b] pos) (e2 g ma mb) := PE.imp (pe_cmpR ho ha hb hm) (tOp_of fun _ _ _ _ h => h)
theorem Post.ofB {W : Wd} {d : D} {M : MS} {Q : Bool → Hp → Prop} (h : Post X.K cl E (fun _ (a b : Bool) => a = b) W (bOf d M) Q) : ∃ c, d = .bl c ∧ ∀ W' H', W.le W' → HRel X.K cl W' M H' → Q c H' := by
  cases d with
  | bl c => exact ⟨c, rfl, fun W' H' l hH => h W' H' c l rfl hH⟩
  | _ => exact h.elim
theorem pdt_cmp {op : CmpOp} {g : D → D → Mo D} (ho : OpD X cl E (compareOp op) g) (ha : PD X cl E a ma) (hb : PD X cl E b mb) (hm : behindInMarks op b = false) : PDT X cl E (.Compare a [op] [b] pos) (tV (e2 g ma mb)) :=
  PT.imp (pt_cmpR ho ha hb hm) fun σ H Q ⟨ρ, M, W, hρ, hH, hp⟩ => tOp_of (fun _ _ _ _ h => h) σ H _ ⟨ρ, M, W, hρ, hH, hp.seq fun d M1 W1 H1 v l1 r1 hH1 hp1 => by
    obtain ⟨c, rfl, k⟩ := hp1.ofB
    exact ⟨c, r1, k W1 H1 (.refl W1) hH1⟩⟩
theorem pdt_val {m : XE} (h : PD X cl E e m) (he : ∀ whole, isTrue e X.env whole = (do let v ← whole; standAt e.pos; holding [v] (truthy v)) := by intro _; rfl) : PDT X cl E e (tV m) :=
  PT.imp (pt_val h he) fun σ H Q ⟨ρ, M, W, hρ, hH, hp⟩ => ⟨ρ, M, W, hρ, hH, hp.seq fun d M1 W1 H1 v l1 r1 hH1 hp1 => by
    obtain ⟨c, rfl, k⟩ := hp1.ofB
    exact ⟨c, r1, k W1 H1 (.refl W1) hH1⟩⟩
/-- a op1 b op2 c -/
def eCh (f g : D → D → Mo D) (a b c : XE) : XE := fun ρ => Mo.bnd (a ρ) fun x => Mo.bnd (b ρ) fun y => Mo.bnd (f x y) fun z => Mo.bnd (bOf z) fun k => if k = true then Mo.bnd (c ρ) fun w => g y w else Mo.ret (.bl false)
theorem tCh_of {f g : D → D → Mo D} {ta tb tc : XE} : ∀ σ H Q, tD X.K cl E (eCh f g ta tb tc) σ H Q → tChain (rD2 X cl E f) (rD2 X cl E g) (tD X.K cl E ta) (tD X.K cl E tb) (tD X.K cl E tc) σ H Q :=
  fun σ H Q ⟨ρ, M, W, hρ, hH, hp⟩ => ⟨ρ, M, W, hρ, hH, hp.seq fun x M1 W1 H1 vx l1 r1 hH1 hp1 => ⟨ρ, M1, W1, hρ.up l1, hH1, hp1.seq fun y M2 W2 H2 vy l2 r2 hH2 hp2 => ⟨x, y, M2, W2, r1.up l2, r2, hH2, hp2.seq fun z M3 W3 H3 vz l3 r3 hH3 hp3 => by
    cases z with
    | bl k =>
      refine ⟨k, r3, ?_⟩
      cases k with
      | true => exact iteT ⟨ρ, M3, W3, hρ.up (l1.trans (l2.trans l3)), hH3, Post.seq hp3 fun w M4 W4 H4 vw l4 r4 hH4 hp4 => ⟨y, w, M4, W4, r2.up (l3.trans l4), r4, hH4, hp4⟩⟩
      | false => exact iteF (hp3 W3 H3 _ (.refl W3) rfl hH3)
    | _ => exact hp3.elim⟩⟩⟩
theorem pd_chain {op op' : CmpOp} {f g : D → D → Mo D} (ho : OpD X cl E (compareOp op) f) (ho' : OpD X cl E (compareOp op') g) (ha : PD X cl E a ma) (hb : PD X cl E b mb) (hc : PD X cl E c mc) (hm : lastMarks [op, op'] [b, c] = false := by with_unfolding_all rfl) :
    PD X cl E (.Compare a [op, op'] [b, c] pos) (eCh f g ma mb mc) := PE.imp (pe_chain ho ho' ha hb hc hm) tCh_of
theorem pdt_chain {op op' : CmpOp} {f g : D → D → Mo D} (ho : OpD X cl E (compareOp op) f) (ho' : OpD X cl E (compareOp op') g) (ha : PD X cl E a ma) (hb : PD X cl E b mb) (hc : PD X cl E c mc) (hm : lastMarks [op, op'] [b, c] = false := by with_unfolding_all rfl) :
    PDT X cl E (.Compare a [op, op'] [b, c] pos) (tV (eCh f g ma mb mc)) := PT.imp (pt_chain ho ho' ha hb hc hm) fun σ H Q ⟨ρ, M, W, hρ, hH, hp⟩ => tCh_of σ H _ ⟨ρ, M, W, hρ, hH, hp.seq fun d M1 W1 H1 v l1 r1 hH1 hp1 => by
    obtain ⟨c, rfl, k⟩ := hp1.ofB
    exact ⟨c, r1, k W1 H1 (.refl W1) hH1⟩⟩
variable {ta tb : Rho → Mo Bool} {rest : List Expr}
theorem pdw_and1 (ha : PDT X cl E a ta) : PDW X cl E (.BoolOp .And [a] pos) ta := pw_and1 ha
theorem pdw_or1 (ha : PDT X cl E a ta) : PDW X cl E (.BoolOp .Or [a] pos) ta := pw_or1 ha
theorem pdw_and (ha : PDT X cl E a ta) (hb : PDW X cl E (.BoolOp .And (b :: rest) pos) tb) : PDW X cl E (.BoolOp .And (a :: b :: rest) pos) (tAn ta tb) :=
  PW.imp (pw_and ha hb) fun σ H Q ⟨ρ, M, W, hρ, hH, hp⟩ => ⟨ρ, M, W, hρ, hH, hp.seq fun c M1 W1 H1 v l1 r1 hH1 hp1 => by
    subst r1
    cases c with
    | true => exact iteT ⟨ρ, M1, W1, hρ.up l1, hH1, hp1⟩
    | false => exact iteF (hp1 W1 H1 _ (.refl W1) rfl hH1)⟩
theorem pdw_or (ha : PDT X cl E a ta) (hb : PDW X cl E (.BoolOp .Or (b :: rest) pos) tb) : PDW X cl E (.BoolOp .Or (a :: b :: rest) pos) (tOrr ta tb) :=
  PW.imp (pw_or ha hb) fun σ H Q ⟨ρ, M, W, hρ, hH, hp⟩ => ⟨ρ, M, W, hρ, hH, hp.seq fun c M1 W1 H1 v l1 r1 hH1 hp1 => by
    subst r1
    cases c with
    | true => exact iteT (hp1 W1 H1 _ (.refl W1) rfl hH1)
    | false => exact iteF ⟨ρ, M1, W1, hρ.up l1, hH1, hp1⟩⟩
theorem pdt_bool (h : PDW X cl E e ta) : PDT X cl E e ta := PW.pt h
theorem pdt_not (ha : PDT X cl E a ta) : PDT X cl E (.UnaryOp .Not a pos) (tNo ta) :=
  PT.imp (pt_not ha) fun σ H Q ⟨ρ, M, W, hρ, hH, hp⟩ => ⟨ρ, M, W, hρ, hH, hp.seq fun c M1 W1 H1 v l1 r1 hH1 hp1 => by
    subst r1
    exact hp1 W1 H1 _ (.refl W1) rfl hH1⟩
theorem pd_one {op} {m : XE} (h : PD X cl E a m) : PD X cl E (.BoolOp op [a] pos) m := pe_one h
theorem pd_and (ha : PD X cl E a ma) (hb : PD X cl E (.BoolOp .And (b :: rest) pos) mb) : PD X cl E (.BoolOp .And (a :: b :: rest) pos) (eAn ma mb) :=
  PE.imp (pe_and ha hb) fun σ H Q ⟨ρ, M, W, hρ, hH, hp⟩ => ⟨ρ, M, W, hρ, hH, hp.seq fun d M1 W1 H1 v l1 r1 hH1 hp1 => by
    cases d with
    | bl c =>
      refine ⟨c, r1, ?_⟩
      cases c with
      | true => exact iteT ⟨ρ, M1, W1, hρ.up l1, hH1, hp1⟩
      | false => exact iteF (hp1 W1 H1 _ (.refl W1) rfl hH1)
    | _ => exact hp1.elim⟩
theorem pd_or (ha : PD X cl E a ma) (hb : PD X cl E (.BoolOp .Or (b :: rest) pos) mb) : PD X cl E (.BoolOp .Or (a :: b :: rest) pos) (eOrr ma mb) :=
  PE.imp (pe_or ha hb) fun σ H Q ⟨ρ, M, W, hρ, hH, hp⟩ => ⟨ρ, M, W, hρ, hH, hp.seq fun d M1 W1 H1 v l1 r1 hH1 hp1 => by
    cases d with
    | bl c =>
      refine ⟨c, r1, ?_⟩
      cases c with
      | true => exact iteT (hp1 W1 H1 _ (.refl W1) rfl hH1)
      | false => exact iteF ⟨ρ, M1, W1, hρ.up l1, hH1, hp1⟩
    | _ => exact hp1.elim⟩
theorem pd_not (ha : PD X cl E a ma) : PD X cl E (.UnaryOp .Not a pos) (eNo ma) :=
  PE.imp (pe_not ha) fun σ H Q ⟨ρ, M, W, hρ, hH, hp⟩ => ⟨ρ, M, W, hρ, hH, hp.seq fun d M1 W1 H1 v l1 r1 hH1 hp1 => by
    cases d with
    | bl c => exact ⟨c, r1, hp1 W1 H1 _ (.refl W1) rfl hH1⟩
    | _ => exact hp1.elim⟩
theorem pd_if {t : Rho → Mo Bool} (hc : PDT X cl E c t) (ha : PD X cl E a ma) (hb : PD X cl E b mb) : PD X cl E (.IfExp c a b pos) (eIf t ma mb) :=
  PE.imp (pe_ifExp hc ha hb) fun σ H Q ⟨ρ, M, W, hρ, hH, hp⟩ => ⟨ρ, M, W, hρ, hH, hp.seq fun c M1 W1 H1 v l1 r1 hH1 hp1 => by
    subst r1
    cases c with
    | true => exact iteT ⟨ρ, M1, W1, hρ.up l1, hH1, hp1⟩
    | false => exact iteF ⟨ρ, M1, W1, hρ.up l1, hH1, hp1⟩⟩
variable (X cl E) in
def rDL (g : List D → Mo D) : List V → Hp → VK → Prop := fun vs H Q => ∃ ds M W, Reps X.K W ds vs ∧ HRel X.K cl W M H ∧ Post X.K cl E (Rep X.K) W (g ds M) Q
variable (X cl E) in
def CallD (f : Value) (g : List D → Mo D) : Prop := CallR X f (rDL X cl E g)
theorem tCB_of {r : List V → Hp → VK → Prop} {g : List D → Mo D} {ms : List XE} (hr : ∀ x H Q, rDL X cl E g x H Q → r x H Q) : ∀ σ H Q, tD X.K cl E (eB g ms) σ H Q → tCB r (tA X.K cl E (aL ms)) σ H Q :=
  fun σ H Q ⟨ρ, M, W, hρ, hH, hp⟩ => ⟨ρ, M, W, hρ, hH, hp.seq fun ds M1 W1 H1 vs l1 r1 hH1 hp1 => hr _ _ _ ⟨ds, M1, W1, r1, hH1, hp1⟩⟩
theorem pd_B {id : String} {x : Str} {p : Pos} {g : List D → Mo D} {ms : List XE} (hc : CallD X cl E (.builtin id) g) (hg : Gl X x) (hm : X.mg x = none) (hv : bootBuiltins x = some (.builtin id)) (ha : PDA X cl E (e :: es) (aL ms)) (hn : x ≠ "__name__" := by decide) (hdb : (x == ("__debug__" : Str)) = false := by decide)
    (he : starEach (e :: es) X.env = (false, eval e X.env) :: starEach es X.env := by rfl) (hpl : (backTo pos (starEach es X.env)).any (·.1) = false := by rfl) : PD X cl E (.Call (.Name x p) (e :: es) [] pos) (eB g ms) :=
  PE.imp (pe_callB hc hg hm hv ha hn hdb he hpl) (tCB_of fun _ _ _ h => h)
theorem pd_Ty {T : String} {x : Str} {p : Pos} {g : List D → Mo D} {ms : List XE} (hc : CallD X cl E (.type T) g) (hg : Gl X x) (hm : X.mg x = none) (hv : bootBuiltins x = some (.type T)) (ha : PDA X cl E (e :: es) (aL ms)) (hn : x ≠ "__name__" := by decide) (hdb : (x == ("__debug__" : Str)) = false := by decide)
    (he : starEach (e :: es) X.env = (false, eval e X.env) :: starEach es X.env := by rfl) (hpl : (backTo pos (starEach es X.env)).any (·.1) = false := by rfl) : PD X cl E (.Call (.Name x p) (e :: es) [] pos) (eB g ms) :=
  PE.imp (pe_callTy hc hg hm hv ha hn hdb he hpl) (tCB_of fun _ _ _ h => h)
end
end DL

/-! DL: what the operators, comparisons and built-ins make of plain values. -/
namespace DL
open PySem PySem.Spec PyProof.Rows L2

/-! ### numbers -/
def mulOk (i j : Int) : Bool := decide (i.natAbs.log2 + j.natAbs.log2 < 1000000)
def divOk (j : Int) : Bool := decide (0 < j) && decide (j.natAbs.log2 < 9000)
def subD : D → D → Mo D
  | .int i, .int j => Mo.ret (.int (i - j))
  | _, _ => Mo.stop
def fdivD : D → D → Mo D
  | .int i, .int j => if divOk j = true then Mo.ret (.int (i / j)) else Mo.stop
  | _, _ => Mo.stop
def modD : D → D → Mo D
  | .int i, .int j => if 0 < j then Mo.ret (.int (i % j)) else Mo.stop
  | _, _ => Mo.stop
def powOk (i j : Int) : Bool := decide (0 ≤ j) && decide (j ≤ 1000000) && decide (i.natAbs < 2 ^ 64)
def powD : D → D → Mo D
  | .int i, .int j => if powOk i j = true then Mo.ret (.int (i ^ j.toNat)) else Mo.stop
  | _, _ => Mo.stop
def negD : D → Mo D
  | .int i => Mo.ret (.int (-i))
  | _ => Mo.stop
def cmpD (p : Int → Int → Bool) (q : Str → Str → Bool) : D → D → Mo D
  | .int i, .int j => Mo.ret (.bl (p i j))
  | .str x, .str y => Mo.ret (.bl (q x y))
  | _, _ => Mo.stop
def ltS (x y : Str) : Bool := decide (x.cps.toList < y.cps.toList)
def ltD := cmpD (fun i j => decide (i < j)) ltS
def leD := cmpD (fun i j => decide (i ≤ j)) fun x y => !ltS y x
def gtD := cmpD (fun i j => decide (j < i)) fun x y => ltS y x
def geD := cmpD (fun i j => decide (j ≤ i)) fun x y => !ltS x y
/-! ### sequences -/
def lstOf (M : MS) : D → Option (List D)
  | .lst xs => some xs
  | .obj n => match M[n]? with
    | some (.lst xs) => some xs
    | _ => none
  | _ => none
def seqOf (M : MS) : D → Option (List D)
  | .tup xs => some xs
  | d => lstOf M d
def fits (n : Nat) : Bool := decide (n ≤ sizeLine)
def catL (d e : D) : Mo D := fun M => match lstOf M d with
  | some xs => (match lstOf M e with
    | some ys => if fits (xs.length + ys.length) = true then some (.ok (.lst (xs ++ ys)), M) else none
    | none => none)
  | none => none
def addD : D → D → Mo D
  | .int i, .int j => Mo.ret (.int (i + j))
  | .str x, .str y => if fits (x.length + y.length) = true then Mo.ret (.str (x ++ y)) else Mo.stop
  | .tup xs, .tup ys => if fits (xs.length + ys.length) = true then Mo.ret (.tup (xs ++ ys)) else Mo.stop
  | .lst xs, e => catL (.lst xs) e
  | .obj n, e => catL (.obj n) e
  | _, _ => Mo.stop
/-! ### equality -/
mutual
def toPy : D → Option PyData
  | .non => some .none
  | .bl b => some (.bool b)
  | .int i => some (.int i)
  | .str x => some (.str x)
  | .tup xs => (toPys xs).map .tuple
  | .lst xs => (toPys xs).map .list
  | .emp => none
  | .scr _ => none
  | .obj _ => none
def toPys : List D → Option (List PyData)
  | [] => some []
  | d :: ds => match toPy d, toPys ds with
    | some x, some xs => some (x :: xs)
    | _, _ => none
end
/-- a text beside a flat value -/
def strEq : D → D → Option Bool
  | .str x, .str y => some (decide (x = y))
  | .str _, .int _ => some false
  | .str _, .bl _ => some false
  | .str _, .non => some false
  | .int _, .str _ => some false
  | .bl _, .str _ => some false
  | .non, .str _ => some false
  | _, _ => none
def deepEq (d e : D) : Option Bool := match toPy d, toPy e with
  | some a, some b => if (SeqAt.shaped a && SeqAt.shaped b) = true then some (PyData.eqv a b) else none
  | _, _ => none
def eqvD (d e : D) : Option Bool := match strEq d e with
  | some b => some b
  | none => deepEq d e
def eqD (d e : D) : Mo D := Mo.opt ((eqvD d e).map D.bl)
def neD (d e : D) : Mo D := Mo.opt ((eqvD d e).map fun b => D.bl (!b))
def isNonB : D → Bool
  | .non => true
  | _ => false
def isND (d e : D) : Mo D := match e with
  | .non => Mo.ret (.bl (isNonB d))
  | _ => Mo.stop
def isntND (d e : D) : Mo D := match e with
  | .non => Mo.ret (.bl (!isNonB d))
  | _ => Mo.stop
/-! ### tables -/
def getF (kvs : List (NestedKey × D × D)) (k : NestedKey) : Option D := (kvs.find? fun p => decide (p.1 = k)).map (·.2.2)
def putF (kvs : List (NestedKey × D × D)) (k : NestedKey) (kd v : D) : List (NestedKey × D × D) :=
  if (getF kvs k).isSome = true then kvs.map (fun p => if p.1 = k then (p.1, p.2.1, v) else p) else kvs ++ [(k, kd, v)]
def getK (kvs : List (Key × D)) (k : Key) : Option D := (kvs.find? fun p => decide (p.1 = k)).map (·.2)
def putKD (kvs : List (Key × D)) (k : Key) (v : D) : List (Key × D) :=
  if (kvs.any fun p => decide (p.1 = k)) = true then kvs.map (fun p => if p.1 = k then (p.1, v) else p) else kvs ++ [(k, v)]
def keyK : D → Option Key
  | .int i => some (.inl i)
  | .str x => some (.inr x)
  | _ => none
/-- what a dict holds at a key, if this is a dict and a key -/
def dAt (M : MS) (d e : D) : Option (Option D) := match d with
  | .obj n => (match M[n]? with
    | some (.dK kvs) => (keyK e).map fun k => getK kvs k
    | some (.dF kvs) => (keyN e).map fun k => getF kvs k
    | _ => none)
  | _ => none
def dPut (M : MS) (o i v : D) : Option MS := match o with
  | .obj n => (match M[n]? with
    | some (.dK kvs) => (keyK i).bind fun k => if kvs.length < sizeLine then some (M.set n (.dK (putKD kvs k v))) else none
    | some (.dF kvs) => (keyN i).bind fun k => if kvs.length ≤ sizeLine then some (M.set n (.dF (putF kvs k i v))) else none
    | _ => none)
  | _ => none

def dGet (M : MS) (d e : D) : Out D := match dAt M d e with
  | some (some v) => some (.ok v, M)
  | _ => none
/-! ### items, lengths, kinds -/
def ixD (d e : D) : Mo D := fun M => match e with
  | .int i => (match d with
    | .str z => (match decide (z.length ≤ sizeLine), atI z.cps.toList i with
      | true, some c => some (.ok (.str ⟨#[c]⟩), M)
      | _, _ => none)
    | d => (match seqOf M d with
      | some xs => (match atI xs i with
        | some v => some (.ok v, M)
        | none => none)
      | none => dGet M d e))
  | e => dGet M d e
def lenD : List D → Mo D
  | [.str z] => fun M => if fits z.length = true then some (.ok (.int z.length), M) else none
  | [d] => fun M => match seqOf M d with
    | some xs => some (.ok (.int xs.length), M)
    | none => none
  | _ => Mo.stop
def absD : List D → Mo D
  | [.int i] => Mo.ret (.int (i.natAbs : Int))
  | _ => Mo.stop
def intD : List D → Mo D
  | [.int i] => Mo.ret (.int i)
  | _ => Mo.stop
def strD : List D → Mo D
  | [.int i] => if decide (i.natAbs.log2 < 1920) = true then Mo.ret (.str (toString i)) else Mo.stop
  | _ => Mo.stop
/-- the keys of a dict whose keys are trees -/
def dKeys (M : MS) (d : D) : Option (List D) := match d with
  | .obj n => (match M[n]? with
    | some (.dF kvs) => if kvs.length ≤ sizeLine then some (kvs.map (·.2.1)) else none
    | _ => none)
  | _ => none
def listD : List D → Mo D
  | [.scr ns] => Mo.ret (.lst (ns.map D.int))
  | [d] => fun M => match seqOf M d with
    | some xs => some (.ok (.lst xs), M)
    | none => (match dKeys M d with
      | some xs => some (.ok (.lst xs), M)
      | none => none)
  | _ => Mo.stop
def tupleD : List D → Mo D
  | [d] => fun M => match seqOf M d with
    | some xs => some (.ok (.tup xs), M)
    | none => none
  | _ => Mo.stop
def blsOf : List D → Option (List Bool)
  | [] => some []
  | .bl b :: ds => (blsOf ds).map (b :: ·)
  | _ :: _ => none
def intsOf : List D → Option (List Int)
  | [] => some []
  | .int b :: ds => (intsOf ds).map (b :: ·)
  | _ :: _ => none
def allD : List D → Mo D
  | [d] => fun M => match (lstOf M d).bind blsOf with
    | some bs => some (.ok (.bl (bs.all id)), M)
    | none => none
  | _ => Mo.stop
def sumD : List D → Mo D
  | [d] => fun M => match (lstOf M d).bind intsOf with
    | some bs => some (.ok (.int bs.sum), M)
    | none => none
  | _ => Mo.stop
inductive Ty where
  | tuple | list | str | int | bool
def Ty.nm : Ty → String
  | .tuple => "tuple" | .list => "list" | .str => "str" | .int => "int" | .bool => "bool"
def isT : Ty → D → Bool
  | .tuple, .tup _ => true
  | .list, .lst _ => true
  | .list, .obj _ => true
  | .str, .str _ => true
  | .int, .int _ => true
  | .int, .bl _ => true
  | .bool, .bl _ => true
  | _, _ => false
def isiD (T : Ty) (d : D) : Mo D := fun M => match d with
  | .obj n => (match lstOf M (.obj n) with
    | some _ => some (.ok (.bl (isT T d)), M)
    | none => none)
  | .scr _ => none
  | d => some (.ok (.bl (isT T d)), M)
/-! ### slices -/
def cut {α : Type} (xs : List α) (lo hi : Option Int) : List α := (xs.drop (HT.sIx xs.length 0 lo)).take (HT.sIx xs.length xs.length hi - HT.sIx xs.length 0 lo)

section
variable {K : PySem.W.Frag} {cl : Cl} {W : Wd} {M : MS} {H : Hp}
theorem sqT_of (hH : HRel K cl W M H) {d : List D} {v : V} (r : Rep K W (.tup d) v) : ∃ a vs, v = .ref a ∧ SqT K H a vs ∧ Reps K W d vs := by
  obtain ⟨a, vs, e, s, q⟩ := r
  exact ⟨a, vs, e, sqT_mono hH.gle s.sq, q⟩
theorem lst_of (hH : HRel K cl W M H) {d : D} {v : V} {xs : List D} (r : Rep K W d v) (h : lstOf M d = some xs) : ∃ a vs, v = .ref a ∧ Rd H a (.lst vs) ∧ Reps K W xs vs := by
  cases d with
  | lst ys =>
    have e : ys = xs := Option.some.inj h
    subst e
    obtain ⟨a, vs, e, s, q⟩ := r
    exact ⟨a, vs, e, rd_mono hH.gle s, q⟩
  | obj n =>
    obtain ⟨a, e, ea⟩ := r
    unfold lstOf at h
    cases em : M[n]? with
    | none => simp [em] at h
    | some mo =>
      simp only [em] at h
      cases mo with
      | lst ys =>
        have e2 : ys = xs := Option.some.inj h
        subst e2
        obtain ⟨b, eb, _, _, vs, ho, q⟩ := hH.obj n _ em
        rw [ea] at eb
        have eb := Option.some.inj eb
        subst eb
        exact ⟨a, vs, e, Rd.of ho, q⟩
      | _ => cases h
  | _ => cases h
theorem seq_of (hH : HRel K cl W M H) {d : D} {v : V} {xs : List D} (r : Rep K W d v) (h : seqOf M d = some xs) : ∃ a vs, v = .ref a ∧ (SqL K H a vs ∨ SqT K H a vs) ∧ Reps K W xs vs := by
  cases d with
  | tup ys =>
    have e : ys = xs := Option.some.inj h
    subst e
    obtain ⟨a, vs, e, s, q⟩ := sqT_of hH r
    exact ⟨a, vs, e, .inr s, q⟩
  | lst ys => obtain ⟨a, vs, e, s, q⟩ := lst_of hH r h; exact ⟨a, vs, e, .inl (.inl s), q⟩
  | obj n => obtain ⟨a, vs, e, s, q⟩ := lst_of hH r h; exact ⟨a, vs, e, .inl (.inl s), q⟩
  | _ => cases h
mutual
theorem dp_of (hg : ∀ a o, W.G a = some o → H a = some o) : ∀ (d : D) (v : V) (p : PyData), Rep K W d v → toPy d = some p → Dp K H v p
  | .non, _, _, r, h => by cases h; rw [show _ = _ from r]; exact .non
  | .bl b, _, _, r, h => by cases h; rw [show _ = _ from r]; exact .bl b
  | .int i, _, _, r, h => by cases h; rw [show _ = _ from r]; exact .int i
  | .str x, _, _, r, h => by cases h; rw [show _ = _ from r]; exact .str x
  | .tup ds, _, _, ⟨a, vs, e, s, q⟩, h => by
    subst e
    obtain ⟨ps, e, rfl⟩ := Option.map_eq_some_iff.mp (show (toPys ds).map PyData.tuple = some _ from h)
    exact .tup (sqT_mono hg s.sq) (dps_of hg ds vs ps q e)
  | .lst ds, _, _, ⟨a, vs, e, s, q⟩, h => by
    subst e
    obtain ⟨ps, e, rfl⟩ := Option.map_eq_some_iff.mp (show (toPys ds).map PyData.list = some _ from h)
    exact .lst (.inl (rd_mono hg s)) (dps_of hg ds vs ps q e)
  | .emp, _, _, _, h => nomatch h
  | .scr _, _, _, _, h => nomatch h
  | .obj _, _, _, _, h => nomatch h
theorem dps_of (hg : ∀ a o, W.G a = some o → H a = some o) : ∀ (ds : List D) (vs : List V) (ps : List PyData), Reps K W ds vs → toPys ds = some ps → DpAll K H vs ps
  | [], _, _, r, h => by cases h; rw [show _ = [] from r]; exact .nil
  | d :: ds, _, _, ⟨v, us, e, r, q⟩, h => by
    subst e
    unfold toPys at h
    cases e1 : toPy d with
    | none => simp [e1] at h
    | some p =>
      cases e2 : toPys ds with
      | none => simp [e1, e2] at h
      | some ps =>
        simp only [e1, e2, Option.some.injEq] at h
        subst h
        exact .cons (dp_of hg d v p r e1) (dps_of hg ds us ps q e2)
end
end

section
variable {X : Cx} {cl : Cl} {E : XK} {pos : Pos}
theorem od_int {f : Value → Value → Sem Value} {C : Int → Int → Prop} {g : Int → Int → V} {h : D → D → Mo D} (ho : OpR X f (rI C g))
    (hd : ∀ d e W M Q, Post X.K cl E (Rep X.K) W (h d e M) Q → ∃ i j, d = .int i ∧ e = .int j ∧ C i j ∧ ∀ H, HRel X.K cl W M H → Q (g i j) H) : OpD X cl E f h :=
  OpR.imp ho fun x y H Q ⟨d, e, M, W, r1, r2, hH, hp⟩ => by
    obtain ⟨i, j, rfl, rfl, c, k⟩ := hd d e W M Q hp
    exact ⟨i, j, r1, r2, c, k H hH⟩
theorem od_sub : OpD X cl E (binaryOp .Sub) subD := OpR.imp op_sub fun x y H Q ⟨d, e, M, W, r1, r2, hH, hp⟩ => by
  cases d <;> cases e <;> first | exact hp.elim | exact ⟨_, _, r1, r2, hp W H _ (.refl W) rfl hH⟩
theorem od_fdiv : OpD X cl E (binaryOp .FloorDiv) fdivD := OpR.imp op_fdivW fun x y H Q ⟨d, e, M, W, r1, r2, hH, hp⟩ => by
  cases d <;> cases e <;> first
    | exact hp.elim
    | (rename_i i j
       have hp : Post X.K cl E (Rep X.K) W ((if divOk j = true then Mo.ret (.int (i / j)) else Mo.stop : Mo D) M) Q := hp
       by_cases c : divOk j = true
       · rw [if_pos c] at hp
         have c2 := Bool.and_eq_true_iff.mp c
         exact ⟨_, _, r1, r2, ⟨of_decide_eq_true c2.1, of_decide_eq_true c2.2⟩, hp W H _ (.refl W) rfl hH⟩
       · rw [if_neg c] at hp; exact hp.elim)
theorem od_mod : OpD X cl E (binaryOp .Mod) modD := OpR.imp op_mod fun x y H Q ⟨d, e, M, W, r1, r2, hH, hp⟩ => by
  cases d <;> cases e <;> first
    | exact hp.elim
    | (rename_i i j
       have hp : Post X.K cl E (Rep X.K) W ((if 0 < j then Mo.ret (.int (i % j)) else Mo.stop : Mo D) M) Q := hp
       by_cases c : 0 < j
       · rw [if_pos c] at hp
         exact ⟨_, _, r1, r2, c, hp W H _ (.refl W) rfl hH⟩
       · rw [if_neg c] at hp; exact hp.elim)
theorem od_pow : OpD X cl E (binaryOp .Pow) powD := OpR.imp op_pow fun x y H Q ⟨d, e, M, W, r1, r2, hH, hp⟩ => by
  cases d <;> cases e <;> first
    | exact hp.elim
    | (rename_i i j
       have hp : Post X.K cl E (Rep X.K) W ((if powOk i j = true then Mo.ret (.int (i ^ j.toNat)) else Mo.stop : Mo D) M) Q := hp
       by_cases c : powOk i j = true
       · rw [if_pos c] at hp
         have c2 := Bool.and_eq_true_iff.mp c
         have c3 := Bool.and_eq_true_iff.mp c2.1
         exact ⟨_, _, r1, r2, ⟨of_decide_eq_true c3.1, of_decide_eq_true c3.2, of_decide_eq_true c2.2⟩, hp W H _ (.refl W) rfl hH⟩
       · rw [if_neg c] at hp; exact hp.elim)
theorem pd_neg {a : Expr} {ma : XE} (ha : PD X cl E a ma) : PD X cl E (.UnaryOp .USub a pos) (e1 negD ma) := PE.imp (pe_un un_neg ha) fun σ H Q ⟨ρ, M, W, hρ, hH, hp⟩ =>
  ⟨ρ, M, W, hρ, hH, hp.seq fun d M1 W1 H1 v l1 r1 hH1 hp1 => by
    cases d <;> first | exact hp1.elim | exact ⟨_, r1, hp1 W1 H1 _ (.refl W1) rfl hH1⟩⟩
theorem od_cmp {op : CmpOp} {p : Int → Int → Bool} {q : Str → Str → Bool} (h1 : OpR X (compareOp op) (rI0 fun i j => .bl (p i j))) (h2 : OpR X (compareOp op) fun x y H Q => ∃ i j, x = .str i ∧ y = .str j ∧ Q (.bl (q i j)) H) : OpD X cl E (compareOp op) (cmpD p q) :=
  OpR.imp (h1.or h2) fun x y H Q ⟨d, e, M, W, r1, r2, hH, hp⟩ => by
    cases d <;> cases e <;> first | exact hp.elim | exact .inl ⟨_, _, r1, r2, hp W H _ (.refl W) rfl hH⟩ | exact .inr ⟨_, _, r1, r2, hp W H _ (.refl W) rfl hH⟩
theorem od_lt : OpD X cl E (compareOp .Lt) ltD := od_cmp op_lt op_lt_str
theorem od_isN : OpD X cl E (compareOp .Is) isND := OpR.imp op_isN fun x y H Q ⟨d, e, M, W, r1, r2, hH, hp⟩ => by
  cases e <;> first
    | exact hp.elim
    | (refine ⟨r2, ?_⟩
       have q := hp W H _ (.refl W) rfl hH
       have e : decide (x = V.non) = isNonB d := by
         cases d <;> first
           | (rw [show x = _ from r1]; rfl)
           | (obtain ⟨a, _, z, _⟩ := r1; rw [z]; rfl)
           | (obtain ⟨a, z, _⟩ := r1; rw [z]; rfl)
       rw [e]; exact q)
theorem od_isntN : OpD X cl E (compareOp .IsNot) isntND := OpR.imp op_notN fun x y H Q ⟨d, e, M, W, r1, r2, hH, hp⟩ => by
  cases e <;> first
    | exact hp.elim
    | (refine ⟨r2, ?_⟩
       have q := hp W H _ (.refl W) rfl hH
       have e : decide (x = V.non) = isNonB d := by
         cases d <;> first
           | (rw [show x = _ from r1]; rfl)
           | (obtain ⟨a, _, z, _⟩ := r1; rw [z]; rfl)
           | (obtain ⟨a, z, _⟩ := r1; rw [z]; rfl)
       rw [e]; exact q)
/-! ### + -/
def rCatR (K : PySem.W.Frag) : R2 := fun x y H Q => ∃ l b xs zs, x = .ref l ∧ y = .ref b ∧ Rd H l (.lst xs) ∧ Rd H b (.lst zs) ∧ xs.length + zs.length ≤ sizeLine ∧ ∀ p, H p = none → Q (.ref p) (upd H p (.lst (xs ++ zs)))
theorem op_catR : OpR X (binaryOp .Add) (rCatR X.K) := by
  intro pins s σ H x y v u Q I rx ry h
  obtain ⟨l, b, xs, zs, rfl, rfl, hH, hB, hz, q⟩ := h
  cases rx
  cases ry
  obtain ⟨z, its, n, r, e⟩ := hH.ok I.hok
  obtain ⟨z2, its2, n2, r2, e2⟩ := hB.ok I.hok
  have hl := r.length
  have hl2 := r2.length
  refine PySem.P.add_list e e2 ?_ (by rw [List.size_toArray, List.size_toArray]; omega)
  have ea : its.toArray ++ its2.toArray = (its ++ its2).toArray := by simp
  rw [ea]
  exact ⟨.ref _, _, I.lnew (t' := s.toks) (r.append r2) (by rw [List.length_append]; omega), rfl, q _ I.fresh⟩
theorem fits_le {n : Nat} (h : fits n = true) : n ≤ sizeLine := of_decide_eq_true h
theorem catL_post {W : Wd} {M : MS} {H : Hp} {d e : D} {x y : V} {Q : VK} (r1 : Rep X.K W d x) (r2 : Rep X.K W e y) (hH : HRel X.K cl W M H) (hp : Post X.K cl E (Rep X.K) W (catL d e M) Q) : rCatR X.K x y H Q := by
  unfold catL at hp
  cases e1 : lstOf M d with
  | none => rw [e1] at hp; exact hp.elim
  | some xs =>
    rw [e1] at hp
    cases e2 : lstOf M e with
    | none => simp only [e2] at hp; exact hp.elim
    | some ys =>
      simp only [e2] at hp
      by_cases c : fits (xs.length + ys.length) = true
      · rw [if_pos c] at hp
        obtain ⟨a, vs, z1, s1, q1⟩ := lst_of hH r1 e1
        obtain ⟨b, us, z2, s2, q2⟩ := lst_of hH r2 e2
        refine ⟨a, b, vs, us, z1, z2, s1, s2, by rw [q1.length, q2.length]; exact fits_le c, fun p hn => ?_⟩
        obtain ⟨W2, l2, h2, r2⟩ := hH.mkLst (q1.append q2) hn
        exact hp W2 _ _ l2 r2 h2
      · rw [if_neg c] at hp; exact hp.elim
theorem od_add : OpD X cl E (binaryOp .Add) addD := OpR.imp (op_add.or (op_add_str.or (op_catN.or op_catR))) fun x y H Q ⟨d, e, M, W, r1, r2, hH, hp⟩ => by
  cases d with
  | int i => cases e <;> first | exact hp.elim | exact .inl ⟨_, _, r1, r2, hp W H _ (.refl W) rfl hH⟩
  | str x =>
    cases e with
    | str y =>
      have hp : Post X.K cl E (Rep X.K) W ((if fits (x.length + y.length) = true then Mo.ret (.str (x ++ y)) else Mo.stop : Mo D) M) Q := hp
      by_cases c : fits (x.length + y.length) = true
      · rw [if_pos c] at hp
        exact .inr (.inl ⟨_, _, r1, r2, fits_le c, hp W H _ (.refl W) rfl hH⟩)
      · rw [if_neg c] at hp; exact hp.elim
    | _ => exact hp.elim
  | tup xs =>
    cases e with
    | tup ys =>
      have hp : Post X.K cl E (Rep X.K) W ((if fits (xs.length + ys.length) = true then Mo.ret (.tup (xs ++ ys)) else Mo.stop : Mo D) M) Q := hp
      by_cases c : fits (xs.length + ys.length) = true
      · rw [if_pos c] at hp
        obtain ⟨a, vs, z1, s1, q1⟩ := sqT_of hH r1
        obtain ⟨b, us, z2, s2, q2⟩ := sqT_of hH r2
        refine .inr (.inr (.inl ⟨a, b, vs, us, z1, z2, s1, s2, by rw [q1.length, q2.length]; exact fits_le c, fun z => ?_, fun _ z => ?_, fun _ _ p o ho hn => ?_⟩))
        · have z' := q1.nil_iff.mp z
          subst z'
          exact hp W H _ (.refl W) (z2 ▸ r2) hH
        · have z' := q2.nil_iff.mp z
          subst z'
          refine hp W H _ (.refl W) ?_ hH
          rw [List.append_nil]
          exact z1 ▸ r1
        · obtain ⟨W2, l2, h2, r2⟩ := hH.mkTup (q1.append q2) ho hn
          exact hp W2 _ _ l2 r2 h2
      · rw [if_neg c] at hp; exact hp.elim
    | _ => exact hp.elim
  | lst xs => exact .inr (.inr (.inr (catL_post r1 r2 hH hp)))
  | obj n => exact .inr (.inr (.inr (catL_post r1 r2 hH hp)))
  | _ => exact hp.elim
/-! ### ==, != -/
theorem eqv_dp {W : Wd} {M : MS} {H : Hp} {d e : D} {x y : V} {b : Bool} (hH : HRel X.K cl W M H) (r1 : Rep X.K W d x) (r2 : Rep X.K W e y) (h : deepEq d e = some b) :
    ∃ p q, Dp X.K H x p ∧ Dp X.K H y q ∧ SeqAt.shaped p = true ∧ SeqAt.shaped q = true ∧ PyData.eqv p q = b := by
  unfold deepEq at h
  cases e1 : toPy d with
  | none => simp [e1] at h
  | some p =>
    cases e2 : toPy e with
    | none => simp [e1, e2] at h
    | some q =>
      simp only [e1, e2] at h
      by_cases c : (SeqAt.shaped p && SeqAt.shaped q) = true
      · rw [if_pos c] at h
        have c2 := Bool.and_eq_true_iff.mp c
        exact ⟨p, q, dp_of hH.gle d x p r1 e1, dp_of hH.gle e y q r2 e2, c2.1, c2.2, Option.some.inj h⟩
      · rw [if_neg c] at h; cases h
theorem strEq_v {W : Wd} {d e : D} {x y : V} {b : Bool} (r1 : Rep X.K W d x) (r2 : Rep X.K W e y) (h : strEq d e = some b) : scal x y = true ∧ decide (x = y) = b := by
  cases d with
  | str z =>
    cases e with
    | str u =>
      rw [show x = _ from r1, show y = _ from r2]
      refine ⟨rfl, ?_⟩
      rw [← Option.some.inj (show some (decide (z = u)) = some b from h)]
      by_cases c : z = u
      · subst c; simp
      · rw [decide_eq_false c, decide_eq_false (fun q => c (V.str.inj q))]
    | int u => rw [show x = _ from r1, show y = _ from r2]; exact ⟨rfl, by rw [← Option.some.inj (show some false = some b from h)]; exact decide_eq_false (fun q => nomatch q)⟩
    | bl u => rw [show x = _ from r1, show y = _ from r2]; exact ⟨rfl, by rw [← Option.some.inj (show some false = some b from h)]; exact decide_eq_false (fun q => nomatch q)⟩
    | non => rw [show x = _ from r1, show y = _ from r2]; exact ⟨rfl, by rw [← Option.some.inj (show some false = some b from h)]; exact decide_eq_false (fun q => nomatch q)⟩
    | _ => cases h
  | int z =>
    cases e with
    | str u => rw [show x = _ from r1, show y = _ from r2]; exact ⟨rfl, by rw [← Option.some.inj (show some false = some b from h)]; exact decide_eq_false (fun q => nomatch q)⟩
    | _ => cases h
  | bl z =>
    cases e with
    | str u => rw [show x = _ from r1, show y = _ from r2]; exact ⟨rfl, by rw [← Option.some.inj (show some false = some b from h)]; exact decide_eq_false (fun q => nomatch q)⟩
    | _ => cases h
  | non =>
    cases e with
    | str u => rw [show x = _ from r1, show y = _ from r2]; exact ⟨rfl, by rw [← Option.some.inj (show some false = some b from h)]; exact decide_eq_false (fun q => nomatch q)⟩
    | _ => cases h
  | _ => cases e <;> cases h
theorem eqvD_two {d e : D} {b : Bool} (h : eqvD d e = some b) : strEq d e = some b ∨ deepEq d e = some b := by
  unfold eqvD at h
  cases q : strEq d e with
  | none => rw [q] at h; exact .inr h
  | some c => rw [q] at h; exact .inl h
theorem od_eq (hu : X.A.units + 64 < cLine) : OpD X cl E (compareOp .Eq) eqD := OpR.imp (op_eq.or (op_eqD hu)) fun x y H Q ⟨d, e, M, W, r1, r2, hH, hp⟩ => by
  obtain ⟨z, h, k⟩ := hp.of_opt
  obtain ⟨b, e1, rfl⟩ := Option.map_eq_some_iff.mp h
  rcases eqvD_two e1 with e1 | e1
  · obtain ⟨a1, a2⟩ := strEq_v r1 r2 e1
    exact .inl ⟨a1, by rw [a2]; exact k W H _ (.refl W) rfl hH⟩
  · obtain ⟨p, q, a1, a2, a3, a4, rfl⟩ := eqv_dp hH r1 r2 e1
    exact .inr ⟨p, q, a1, a2, a3, a4, k W H _ (.refl W) rfl hH⟩
theorem od_ne (hu : X.A.units + 64 < cLine) : OpD X cl E (compareOp .NotEq) neD := OpR.imp (op_ne.or (op_neD hu)) fun x y H Q ⟨d, e, M, W, r1, r2, hH, hp⟩ => by
  obtain ⟨z, h, k⟩ := hp.of_opt
  obtain ⟨b, e1, rfl⟩ := Option.map_eq_some_iff.mp h
  rcases eqvD_two e1 with e1 | e1
  · obtain ⟨a1, a2⟩ := strEq_v r1 r2 e1
    exact .inl ⟨a1, by rw [a2]; exact k W H _ (.refl W) rfl hH⟩
  · obtain ⟨p, q, a1, a2, a3, a4, rfl⟩ := eqv_dp hH r1 r2 e1
    exact .inr ⟨p, q, a1, a2, a3, a4, k W H _ (.refl W) rfl hH⟩
end
end DL

/-! DL: dicts: keys that are trees; keys that are numbers or texts; what is in what. -/
namespace DL
open PySem PySem.Spec PyProof.Rows L2

section
variable {X : Cx} {pins : List (Addr × Obj)} {σ : L2.St} {H : Hp} {s : Shared} {W : Wd}
mutual
theorem nest_of (I : Inv X pins σ H s) (hg : ∀ a o, W.G a = some o → H a = some o) : ∀ (d : D) (v : V) (u : Value) (k : NestedKey), Rep X.K W d v → RelV v u → nk d = some k → NestedIs s.heap k u
  | .non, _, _, _, r, ru, h => by
    cases h
    rw [show _ = V.non from r] at ru
    rw [show _ = Value.none from ru]
    exact .none
  | .int i, _, _, _, r, ru, h => by
    cases h
    rw [show _ = V.int i from r] at ru
    obtain ⟨t, rfl⟩ := ru
    exact .int i t
  | .str x, _, _, _, r, ru, h => by
    cases h
    rw [show _ = V.str x from r] at ru
    obtain ⟨t, rfl⟩ := ru
    exact .text x t
  | .tup ds, _, _, _, ⟨a, vs, e, sq, q⟩, ru, h => by
    subst e
    rw [show _ = Value.ref a from ru]
    obtain ⟨ks, e, rfl⟩ := Option.map_eq_some_iff.mp (show (nks ds).map NestedKey.tup = some _ from h)
    obtain ⟨its, rv, ⟨o, ho, hc, n, hd⟩, hz⟩ := I.tuple (sqT_mono hg sq.sq)
    exact .tup ho hc hd (nests_of I hg ds vs _ ks q rv e)
  | .emp, _, _, _, _, _, h => nomatch h
  | .scr _, _, _, _, _, _, h => nomatch h
  | .bl _, _, _, _, _, _, h => nomatch h
  | .lst _, _, _, _, _, _, h => nomatch h
  | .obj _, _, _, _, _, _, h => nomatch h
theorem nests_of (I : Inv X pins σ H s) (hg : ∀ a o, W.G a = some o → H a = some o) : ∀ (ds : List D) (vs : List V) (us : List Value) (ks : List NestedKey), Reps X.K W ds vs → Vals vs us → nks ds = some ks → NestedAll s.heap ks us
  | [], _, _, _, r, ru, h => by
    cases h
    rw [show _ = [] from r] at ru
    cases ru
    exact .nil
  | d :: ds, _, _, _, ⟨v, r', e, r1, r2⟩, ru, h => by
    subst e
    cases ru with
    | cons h1 t =>
      obtain ⟨k, ek, h2⟩ := Option.bind_eq_some_iff.mp (show ((nk d).bind fun k => (nks ds).map (k :: ·)) = some _ from h)
      obtain ⟨ks', ek2, rfl⟩ := Option.map_eq_some_iff.mp h2
      exact .cons (nest_of I hg d v _ k r1 h1 ek) (nests_of I hg ds r' _ ks' r2 t ek2)
end
theorem keyN_tup {d : D} {k : NestedKey} (h : keyN d = some k) : ∃ ds, d = .tup ds ∧ nk d = some k ∧ k.depth ≤ 8 := by
  cases d with
  | tup ds =>
    obtain ⟨k', e, h2⟩ := Option.bind_eq_some_iff.mp (show ((nk (.tup ds)).bind fun k => if k.depth ≤ 8 then some k else none) = some k from h)
    by_cases c : k'.depth ≤ 8
    · rw [if_pos c] at h2
      cases h2
      exact ⟨ds, rfl, e, c⟩
    · rw [if_neg c] at h2; cases h2
  | _ => cases h
theorem key_ref {K : PySem.W.Frag} {d : D} {v : V} {k : NestedKey} (r : Rep K W d v) (h : keyN d = some k) : ∃ a, v = .ref a := by
  obtain ⟨ds, rfl, _⟩ := keyN_tup h
  obtain ⟨a, _, e, _⟩ := r
  exact ⟨a, e⟩
theorem key_at (I : Inv X pins σ H s) (hg : ∀ a o, W.G a = some o → H a = some o) {d : D} {a : Addr} {k : NestedKey} (r : Rep X.K W d (.ref a)) (h : keyN d = some k) : (nestedKind X.prog X.w).is s.heap k a := by
  obtain ⟨ds, rfl, h1, h2⟩ := keyN_tup h
  exact ⟨nest_of I hg _ _ _ k r rfl h1, h2⟩
theorem Paired.memR {α β : Type} {R : α → β → Prop} : ∀ {l : List α} {m : List β}, Paired R l m → ∀ y ∈ m, ∃ x ∈ l, R x y
  | _, _, .nil, _, h => nomatch h
  | _, _, .cons r t, y, h => by
    rcases List.mem_cons.mp h with rfl | h
    · exact ⟨_, List.mem_cons_self, r⟩
    · obtain ⟨x, hx, q⟩ := Paired.memR t y h
      exact ⟨x, List.mem_cons_of_mem _ hx, q⟩
theorem dict_at (I : Inv X pins σ H s) (hg : ∀ a o, W.G a = some o → H a = some o) {b : Addr} {kvs : List (NestedKey × D × D)} {xs : List (NestedKey × Addr × Value)} (ho : H b = some (.ext (DfObj X.w b xs))) (pr : Paired (EntR X.K W) kvs xs) :
    (b == sysModules) = false ∧ s.heap.DictOfH (nestedKind X.prog X.w) b xs := by
  obtain ⟨⟨⟨hs, nd⟩, o, es, ep, h1, h2, h3, h4⟩, _, _⟩ := I.hok b _ ho
  refine ⟨hs, o, es, ep, h1, h2, h3, h4, fun x hx => ?_, nd⟩
  obtain ⟨p, _, e1, e2, e3, _⟩ := Paired.memR pr x hx
  rw [← e1]
  exact key_at I hg e3 e2
end
section
variable {K : PySem.W.Frag} {W : Wd}
theorem get_rel {kvs : List (NestedKey × D × D)} {xs : List (NestedKey × Addr × Value)} (pr : Paired (EntR K W) kvs xs) (k : NestedKey) :
    (getF kvs k = none ∧ atKey xs k = none) ∨ ∃ d p u, getF kvs k = some d ∧ atKey xs k = some p ∧ Rep K W d u ∧ RelV u p.2 := by
  induction pr with
  | nil => exact .inl ⟨rfl, rfl⟩
  | @cons p q ps qs h t ih =>
    obtain ⟨e1, e2, e3, u, e4, e5⟩ := h
    by_cases c : p.1 = k
    · have c' : q.1 = k := e1.symm.trans c
      exact .inr ⟨p.2.2, q.2, u, by simp [getF, c], by simp [atKey, c'], e4, e5⟩
    · have c' : ¬ q.1 = k := fun z => c (e1.trans z)
      have a1 : getF (p :: ps) k = getF ps k := by simp [getF, c]
      have a2 : atKey (q :: qs) k = atKey qs k := by simp [atKey, c']
      rw [a1, a2]; exact ih
theorem get_some {kvs : List (NestedKey × D × D)} {xs : List (NestedKey × Addr × Value)} (pr : Paired (EntR K W) kvs xs) (k : NestedKey) : (getF kvs k).isSome = (atKey xs k).isSome := by
  rcases get_rel pr k with ⟨a, b⟩ | ⟨_, _, _, a, b, _⟩ <;> rw [a, b] <;> rfl
theorem put_rel {kvs : List (NestedKey × D × D)} {xs : List (NestedKey × Addr × Value)} {k : NestedKey} {kd d : D} {a : Addr} {v : V} {u : Value} (pr : Paired (EntR K W) kvs xs) (hk : keyN kd = some k) (rk : Rep K W kd (.ref a)) (rd : Rep K W d v) (ru : RelV v u) :
    Paired (EntR K W) (putF kvs k kd d) (storedH xs k a u) := by
  unfold putF storedH
  rw [get_some pr k]
  by_cases c : (atKey xs k).isSome = true
  · rw [if_pos c, if_pos c]
    clear c
    induction pr with
    | nil => exact .nil
    | @cons p q ps qs h t ih =>
      rw [List.map_cons, List.map_cons]
      refine .cons ?_ ih
      obtain ⟨e1, e2, e3, u', e4, e5⟩ := h
      unfold putAt
      by_cases c : p.1 = k
      · rw [if_pos c, if_pos (e1.symm.trans c)]; exact ⟨e1, e2, e3, v, rd, ru⟩
      · rw [if_neg c, if_neg (fun z => c (e1.trans z))]; exact ⟨e1, e2, e3, u', e4, e5⟩
  · rw [if_neg c, if_neg c]
    exact Paired.snoc pr ⟨rfl, hk, rk, v, rd, ru⟩
/-! tables with flat keys -/
theorem getK_rel {kvs : List (Key × D)} {vs : List (Key × V)} (pr : RepK K W kvs vs) (k : Key) : (getK kvs k = none ∧ valV vs k = none) ∨ ∃ d u, getK kvs k = some d ∧ valV vs k = some u ∧ Rep K W d u := by
  unfold RepK at pr
  induction pr with
  | nil => exact .inl ⟨rfl, rfl⟩
  | @cons p q ps qs h t ih =>
    obtain ⟨e1, e2⟩ := h
    by_cases c : p.1 = k
    · exact .inr ⟨p.2, q.2, by simp [getK, c], valV_pos (e1.symm.trans c), e2⟩
    · have a1 : getK (p :: ps) k = getK ps k := by simp [getK, c]
      rw [a1, valV_neg (fun z => c (e1.trans z))]; exact ih
theorem getK_some {kvs : List (Key × D)} {vs : List (Key × V)} (pr : RepK K W kvs vs) (k : Key) : (getK kvs k).isSome = (valV vs k).isSome := by
  rcases getK_rel pr k with ⟨a, b⟩ | ⟨_, _, a, b, _⟩ <;> rw [a, b] <;> rfl
theorem any_rel {kvs : List (Key × D)} {vs : List (Key × V)} (pr : RepK K W kvs vs) (k : Key) : (kvs.any fun p => decide (p.1 = k)) = (vs.any fun p => decide (p.1 = k)) := by
  unfold RepK at pr
  induction pr with
  | nil => rfl
  | cons h t ih => rw [List.any_cons, List.any_cons, ih, h.1]
theorem putK_rel {kvs : List (Key × D)} {vs : List (Key × V)} {k : Key} {d : D} {v : V} (pr : RepK K W kvs vs) (rd : Rep K W d v) : RepK K W (putKD kvs k d) (putK vs k v) := by
  unfold putKD putK
  rw [any_rel pr k]
  by_cases c : (vs.any fun p => decide (p.1 = k)) = true
  · rw [if_pos c, if_pos c]
    clear c
    unfold RepK at pr ⊢
    induction pr with
    | nil => exact .nil
    | @cons p q ps qs h t ih =>
      rw [List.map_cons, List.map_cons]
      refine .cons ?_ ih
      by_cases c : p.1 = k
      · rw [if_pos c, if_pos (h.1.symm.trans c)]; exact ⟨h.1, rd⟩
      · rw [if_neg c, if_neg (fun z => c (h.1.trans z))]; exact h
  · rw [if_neg c, if_neg c]
    exact Paired.snoc pr ⟨rfl, rd⟩
theorem keyK_v {e : D} {v : V} {k : Key} (r : Rep K W e v) (h : keyK e = some k) : v = kV k := by
  cases e <;> cases h <;> exact r
end
section
variable {X : Cx} {cl : Cl} {E : XK}
theorem HRel.getDF {W : Wd} {M : MS} {H : Hp} {n : Nat} {kvs : List (NestedKey × D × D)} {a : Addr} (hH : HRel X.K cl W M H) (e : M[n]? = some (.dF kvs)) (ea : W.ι[n]? = some a) : ∃ xs, H a = some (.ext (DfObj cl.w a xs)) ∧ Paired (EntR X.K W) kvs xs := by
  obtain ⟨b, eb, _, _, xs, ho, q⟩ := hH.obj n _ e
  rw [ea] at eb
  have eb := Option.some.inj eb
  subst eb
  exact ⟨xs, ho, q⟩
theorem HRel.getDK {W : Wd} {M : MS} {H : Hp} {n : Nat} {kvs : List (Key × D)} {a : Addr} (hH : HRel X.K cl W M H) (e : M[n]? = some (.dK kvs)) (ea : W.ι[n]? = some a) : ∃ vs, H a = some (.dK vs) ∧ RepK X.K W kvs vs := by
  obtain ⟨b, eb, _, _, xs, ho, q⟩ := hH.obj n _ e
  rw [ea] at eb
  have eb := Option.some.inj eb
  subst eb
  exact ⟨xs, ho, q⟩
theorem room100 {k : Nat} {A : Around} (r : Room k A) : A.units + 100 < cLine := by have := r.un; omega
theorem dAt_cases {M : MS} {d e : D} {o : Option D} (h : dAt M d e = some o) : (∃ n kvs k, d = .obj n ∧ M[n]? = some (.dK kvs) ∧ keyK e = some k ∧ o = getK kvs k) ∨ ∃ n kvs k, d = .obj n ∧ M[n]? = some (.dF kvs) ∧ keyN e = some k ∧ o = getF kvs k := by
  cases d with
  | obj n =>
    cases em : M[n]? with
    | none => simp [dAt, em] at h
    | some mo =>
      cases mo with
      | dK kvs =>
        have h2 : (keyK e).map (fun k => getK kvs k) = some o := by simpa [dAt, em] using h
        obtain ⟨k, h3, h4⟩ := Option.map_eq_some_iff.mp h2
        exact .inl ⟨n, kvs, k, rfl, em, h3, h4.symm⟩
      | dF kvs =>
        have h2 : (keyN e).map (fun k => getF kvs k) = some o := by simpa [dAt, em] using h
        obtain ⟨k, h3, h4⟩ := Option.map_eq_some_iff.mp h2
        exact .inr ⟨n, kvs, k, rfl, em, h3, h4.symm⟩
      | _ => simp [dAt, em] at h
  | _ => cases h
/-- k in d -/
theorem op_inDct (hu : X.A.units + 100 < cLine) (hw : cl.w = X.w) : OpR X (compareOp .In) (fun x y H Q => ∃ d e M W o, Rep X.K W d x ∧ Rep X.K W e y ∧ HRel X.K cl W M H ∧ dAt M e d = some o ∧ Q (.bl o.isSome) H) := by
  intro pins s σ H x y v u Q I rx ry ⟨d, e, M, W, o, r1, r2, hH, hm, q⟩
  rcases dAt_cases hm with ⟨n, kvs, k, rfl, e1, e2, rfl⟩ | ⟨n, kvs, k, rfl, e1, e2, rfl⟩
  · obtain ⟨b, rfl, eb⟩ := r2
    cases ry
    obtain ⟨vs, ho, pr⟩ := hH.getDK e1 eb
    rw [keyK_v r1 e2] at rx
    rw [getK_some pr k] at q
    exact d_in (by omega) I (DGet.k ho) rx fun s2 I2 => ⟨.bl _, H, I2, rfl, q⟩
  · obtain ⟨b, rfl, eb⟩ := r2
    obtain ⟨a, rfl⟩ := key_ref r1 e2
    cases ry
    cases rx
    obtain ⟨xs, ho, pr⟩ := hH.getDF e1 eb
    rw [hw] at ho
    obtain ⟨hs, dd⟩ := dict_at I hH.gle ho pr
    rw [get_some pr k] at q
    exact wpAny_in_heap (knd := nestedKind X.prog X.w) (show X.A.units + 1 + 8 < cLine by omega) (key_at I hH.gle r1 e2) hs dd ⟨.bl _, H, I.tok _, rfl, q⟩
theorem op_notInDct (hu : X.A.units + 100 < cLine) (hw : cl.w = X.w) : OpR X (compareOp .NotIn) (fun x y H Q => ∃ d e M W o, Rep X.K W d x ∧ Rep X.K W e y ∧ HRel X.K cl W M H ∧ dAt M e d = some o ∧ Q (.bl (!o.isSome)) H) := by
  intro pins s σ H x y v u Q I rx ry ⟨d, e, M, W, o, r1, r2, hH, hm, q⟩
  rcases dAt_cases hm with ⟨n, kvs, k, rfl, e1, e2, rfl⟩ | ⟨n, kvs, k, rfl, e1, e2, rfl⟩
  · obtain ⟨b, rfl, eb⟩ := r2
    cases ry
    obtain ⟨vs, ho, pr⟩ := hH.getDK e1 eb
    rw [keyK_v r1 e2] at rx
    rw [getK_some pr k] at q
    exact d_notIn (by omega) I (DGet.k ho) rx fun s2 I2 => ⟨.bl _, H, I2, rfl, q⟩
  · obtain ⟨b, rfl, eb⟩ := r2
    obtain ⟨a, rfl⟩ := key_ref r1 e2
    cases ry
    cases rx
    obtain ⟨xs, ho, pr⟩ := hH.getDF e1 eb
    rw [hw] at ho
    obtain ⟨hs, dd⟩ := dict_at I hH.gle ho pr
    rw [get_some pr k] at q
    show wpAny _ _ (do return Value.bool (!(← contains (.ref b) (.ref a)))) _ _ s
    exact wpAny_bind (wpAny_contains_heap (knd := nestedKind X.prog X.w) (show X.A.units + 1 + 8 < cLine by omega) (key_at I hH.gle r1 e2) hs dd (wpAny_pure ⟨.bl _, H, I.tok _, rfl, q⟩))
/-- d[k] -/
theorem ix_dct (hu : X.A.units + 100 < cLine) (hw : cl.w = X.w) : IxR X (fun x y H Q => ∃ d e M W o, Rep X.K W d x ∧ Rep X.K W e y ∧ HRel X.K cl W M H ∧ dAt M d e = some (some o) ∧ ∀ u, Rep X.K W o u → Q u H) := by
  intro value slice pins s σ H x y v u Q I rx ry ⟨d, e, M, W, o, r1, r2, hH, hm, q⟩ hs
  rcases dAt_cases hm with ⟨n, kvs, k, rfl, e1, e2, e3⟩ | ⟨n, kvs, k, rfl, e1, e2, e3⟩
  · obtain ⟨b, rfl, eb⟩ := r1
    cases rx
    obtain ⟨vs, ho, pr⟩ := hH.getDK e1 eb
    rw [keyK_v r2 e2] at ry
    obtain ⟨z, hd, ws, rel, dd⟩ := dk_of I.hok ho
    rcases getK_rel pr k with ⟨a1, _⟩ | ⟨d', u', a1, a2, a3⟩
    · rw [a1] at e3; cases e3
    · rw [a1] at e3
      cases e3
      obtain ⟨w', hw', rw'⟩ := RelO.some_of (v := u') (o := valueAt ws k) (by rw [← a2]; exact rel.val k)
      exact subscriptTail_builtinR (x := w') dd.typeIs PySem.F.slot_dict_getitem.lookup (wpAny_getItem_of (kV_is ry) dd.mapOf hw' ⟨rfl, u', H, I.tok _, rw', q u' a3⟩) hs
  · obtain ⟨b, rfl, eb⟩ := r1
    obtain ⟨a, rfl⟩ := key_ref r2 e2
    cases rx
    cases ry
    obtain ⟨xs, ho, pr⟩ := hH.getDF e1 eb
    rw [hw] at ho
    obtain ⟨hs', dd⟩ := dict_at I hH.gle ho pr
    rcases get_rel pr k with ⟨a1, _⟩ | ⟨d', p, u', a1, a2, a3, a4⟩
    · rw [a1] at e3; cases e3
    · rw [a1] at e3
      cases e3
      exact subscriptTail_builtinR (x := p.2) dd.typeIs PySem.F.slot_dict_getitem.lookup (wpAny_getItem_heap (knd := nestedKind X.prog X.w) (show X.A.units + 1 + 8 < cLine by omega) (key_at I hH.gle r2 e2) dd a2 ⟨rfl, u', H, I.tok _, a4, q u' a3⟩) hs
/-- d[k] = v -/
theorem df_obj {P : Program} {w : World} {H : Hp} {h : Heap} {b : Addr} {xs : List (NestedKey × Addr × Value)} (hs : (b == sysModules) = false) (dd : h.DictOfH (nestedKind P w) b xs) : ObjOk P w H h b (.ext (DfObj w b xs)) := by
  obtain ⟨o, es, ep, h1, h2, h3, h4, _, nd⟩ := dd
  exact ⟨⟨⟨hs, nd⟩, o, es, ep, h1, h2, h3, h4⟩, ⟨o, h1⟩, fun ha hb ⟨c, o, es, ep, x1, x2⟩ kk => ⟨c, o, es, ep, kk _ x1, x2⟩⟩
theorem set_dct (hu : X.A.units + 100 < cLine) (hw : cl.w = X.w) : PSet X (fun o i v H Q => ∃ d e z M W M', Rep X.K W d o ∧ Rep X.K W e i ∧ Rep X.K W z v ∧ HRel X.K cl W M H ∧ dPut M d e z = some M' ∧ ∀ H', HRel X.K cl W M' H' → Q H') := by
  intro pins s σ H o i v ov iv u Q I ro ri rv ⟨d, e, z, M, W, M', r1, r2, r3, hH, hm, q⟩
  cases d with
  | obj n =>
    cases em : M[n]? with
    | none => simp [dPut, em] at hm
    | some mo =>
      cases mo with
      | dK kvs =>
        have h2 : ((keyK e).bind fun k => if kvs.length < sizeLine then some (M.set n (.dK (putKD kvs k z))) else none) = some M' := by simpa [dPut, em] using hm
        obtain ⟨k, h3, h4⟩ := Option.bind_eq_some_iff.mp h2
        by_cases c : kvs.length < sizeLine
        · rw [if_pos c] at h4
          cases h4
          obtain ⟨b, rfl, eb⟩ := r1
          cases ro
          obtain ⟨vs, ho, pr⟩ := hH.getDK em eb
          rw [keyK_v r2 h3] at ri
          exact d_setItem (by omega) I (DPut.k (v := v) ho (by rw [← Paired.length pr]; exact c)) ri rv fun s2 I2 => ⟨_, I2, q _ (hH.set em (fun z => nomatch z) (fun z => nomatch z) eb ⟨_, rfl, putK_rel pr r3⟩)⟩
        · rw [if_neg c] at h4; cases h4
      | dF kvs =>
        have h2 : ((keyN e).bind fun k => if kvs.length ≤ sizeLine then some (M.set n (.dF (putF kvs k e z))) else none) = some M' := by simpa [dPut, em] using hm
        obtain ⟨k, h3, h4⟩ := Option.bind_eq_some_iff.mp h2
        by_cases c : kvs.length ≤ sizeLine
        · rw [if_pos c] at h4
          cases h4
          obtain ⟨b, rfl, eb⟩ := r1
          obtain ⟨a, rfl⟩ := key_ref r2 h3
          cases ro
          cases ri
          obtain ⟨xs, ho, pr⟩ := hH.getDF em eb
          have ho' := ho
          rw [hw] at ho'
          obtain ⟨hs', dd⟩ := dict_at I hH.gle ho' pr
          refine wpAny_setItem_heap (knd := nestedKind X.prog X.w) (show X.A.units + 1 + 8 < cLine by omega) (key_at I hH.gle r2 h3) dd (fun h' dd' sb => ?_) (by rw [← Paired.length pr]; exact c)
          have he : ∃ q, h'.get? b = some q := let ⟨q, _, _, hq, _⟩ := dd'; ⟨q, hq⟩
          refine ⟨upd H b (.ext (DfObj X.w b (storedH xs k a u))), I.write (e := b) (by rw [ho]; exact True.intro) (.inl rfl) (fun c ob hb hu => (sb.2 c hb).trans hu) he (df_obj hs' dd'), ?_⟩
          refine q _ (hH.set em (fun z => nomatch z) (fun z => nomatch z) eb ⟨_, ?_, put_rel pr h3 r2 r3 rv⟩)
          rw [hw]
        · rw [if_neg c] at h4; cases h4
      | _ => simp [dPut, em] at hm
  | _ => cases hm
/-! ### {} -/
def newDK : XE := fun _ => newO (.dK [])
def newDF : XE := fun _ => newO (.dF [])
theorem pd_newDK {pos : Pos} : PD X cl E (.Dict [] [] pos) newDK := PE.imp pe_dnewK fun σ H Q ⟨ρ, M, W, hρ, hH, hp⟩ => fun d hd => by
  obtain ⟨l, h2, e⟩ := hH.new (mo := .dK []) (o := .dK []) hd (fun z => nomatch z) ⟨[], rfl, .nil⟩
  exact hp _ _ _ l ⟨d, rfl, e⟩ h2
theorem pe_dnewF {pos : Pos} : PE X (.Dict [] [] pos) (fun σ H Q => ∀ d, H d = none → Q (.ref d) (upd H d (.ext (DfObj X.w d [])))) := ⟨fun pins s σ H Q I h => by
  refine wpAny_Dict_empty ⟨.ref s.heap.objs.size, _, I.laid (a := s.heap.objs.size) (o := .ext (DfObj X.w s.heap.objs.size [])) (t' := s.toks) (fun _ _ q => Heap.get?_push_of_some _ q) (Nat.le_refl _) ?_, rfl, h _ (I.hok.fresh (Nat.le_refl _))⟩
  refine df_obj ?_ (Heap.DictOfH.new s.heap)
  have := I.big
  exact beq_eq_false_iff_ne.mpr (Nat.ne_of_gt this)⟩
theorem pd_newDF {pos : Pos} (hw : cl.w = X.w) : PD X cl E (.Dict [] [] pos) newDF := PE.imp pe_dnewF fun σ H Q ⟨ρ, M, W, hρ, hH, hp⟩ => fun d hd => by
  obtain ⟨l, h2, e⟩ := hH.new (mo := .dF []) (o := .ext (DfObj X.w d [])) hd (fun z => nomatch z) ⟨[], by rw [hw], .nil⟩
  exact hp _ _ _ l ⟨d, rfl, e⟩ h2
/-! ### list(d) -/
theorem call_list_dF (hc : X.calm = true) : CallR X (.type "list") (fun vs H Q => ∃ a xs, vs = [V.ref a] ∧ H a = some (.ext (DfObj X.w a xs)) ∧ xs.length ≤ sizeLine ∧ ∀ p, H p = none → Q (.ref p) (upd H p (.lst (xs.map fun q => V.ref q.2.1)))) := by
  intro pins s σ H vs us Q I r h
  obtain ⟨a, ks, rfl, ha, hz, q⟩ := h
  obtain ⟨u, rfl, rx⟩ := r.one
  cases rx
  obtain ⟨⟨⟨hs, nd⟩, o, es, ep, ho, hx, hdt, he⟩, _, _⟩ := I.hok a _ ha
  have l1 : es.size = ks.length := by rw [← Array.length_toList, he, List.length_map]
  refine PySem.W.kdl_call (kdl_raw hs hx hdt) (I.ok.hd hc) ho (by omega) fun h' tk acc' c' kp e it => ?_
  have ea : acc'.toList = (ks.map fun x => x.2.1).map Value.ref := by
    apply List.ext_getElem?
    intro j
    rw [List.getElem?_map, List.getElem?_map]
    have hl : acc'.toList.length = ks.length := by rw [Array.length_toList, it.1]; exact l1
    cases hj : acc'.toList[j]? with
    | none =>
      have h1 := List.getElem?_eq_none_iff.mp hj
      rw [List.getElem?_eq_none (by omega)]; rfl
    | some v =>
      obtain ⟨en, hen, hv⟩ := it.2 j v (by rw [← Array.getElem?_toList]; exact hj)
      have qe : es[j]? = (ks[j]?).map (entN X.w) := by rw [← Array.getElem?_toList, he, List.getElem?_map]
      rw [hen] at qe
      cases hb : ks[j]? with
      | none => rw [hb] at qe; cases qe
      | some b =>
        rw [hb] at qe
        have e2 : en = entN X.w b := Option.some.inj qe
        rw [hv, e2]; rfl
  have rv : Vals (ks.map fun x => V.ref x.2.1) acc'.toList := by
    rw [ea]
    have := vals_refs (ks.map fun x => x.2.1)
    rw [List.map_map] at this
    exact this
  refine ⟨.ref s.heap.objs.size, _, I.laid (t' := tk) (o := .lst (ks.map fun x => V.ref x.2.1)) kp (Nat.le_refl _) ?_, rfl, q _ (I.hok.fresh (Nat.le_refl _))⟩
  exact ⟨by rw [List.length_map]; exact hz, acc'.toList, c', rv, by rw [Array.toArray_toList]; exact e⟩
theorem keys_rep {W : Wd} {kvs : List (NestedKey × D × D)} {xs : List (NestedKey × Addr × Value)} (pr : Paired (EntR X.K W) kvs xs) : Reps X.K W (kvs.map (·.2.1)) (xs.map fun q => V.ref q.2.1) := by
  induction pr with
  | nil => rfl
  | cons h t ih => exact ⟨_, _, rfl, h.2.2.1, ih⟩
end
end DL

/-! DL: items, lengths, slices, the small built-ins. -/
namespace HT
open PySem PySem.Spec PyProof.Rows L2
section
variable {prog : Program} {w : World} {A : Around} {E : Value → Shared → Prop} {s : Shared}
theorem sliceApplied_rev {sl : Addr} {vl vu vs : Value} {n : Nat} {Q : Int × Int × Nat → Shared → Prop} (hs : s.heap.IsSliceOf sl vl vu vs) (pl : IsPart vl none) (pu : IsPart vu none) (ps : IsPart vs (some (-1)))
    (h : Q ((n : Int) - 1, -1, n) s) : wpAny (model prog w) A (Builtin.Slice.sliceApplied (.ref sl) (pure (n : Int))) Q E s := by
  obtain ⟨os, hos, hcs, hds⟩ := id hs
  unfold Builtin.Slice.sliceApplied Builtin.Slice.sliceFields
  refine wpAny_bind (wpAny_bind (wpAny_field hos hds (x := vl) rfl (wpAny_bind (wpAny_field hos hds (x := vu) rfl (wpAny_bind (wpAny_field hos hds (x := vs) rfl (wpAny_pure ?_)))))))
  refine wpAny_bind (slicePart_ ps ?_)
  show wpAny _ _ (if ((-1 : Int) == 0) = true then _ else _) _ _ s
  rw [if_neg (by decide)]
  refine wpAny_bind (slicePart_ pl (wpAny_bind (slicePart_ pu (wpAny_bind (wpAny_pure ?_)))))
  show wpAny _ _ (match Builtin.Slice.sliceAdjust none none (-1) (n : Int) with | (lo, hi) => pure (lo, (-1 : Int), Builtin.Slice.slicePlaces lo hi (-1))) _ _ s
  have e1 : Builtin.Slice.sliceAdjust none none (-1) (n : Int) = ((n : Int) - 1, -1) := rfl
  rw [e1]
  show wpAny _ _ (pure ((n : Int) - 1, (-1 : Int), Builtin.Slice.slicePlaces ((n : Int) - 1) (-1) (-1))) _ _ s
  have e2 : Builtin.Slice.slicePlaces ((n : Int) - 1) (-1) (-1) = n := by
    unfold Builtin.Slice.slicePlaces
    have h1 : ¬ ((-1 : Int) > 0) := by decide
    simp only [h1, if_false]
    by_cases hn : (n : Int) - 1 > -1
    · rw [if_pos hn]
      rw [show (-(-1) : Int) = 1 by decide, Int.ediv_one]
      omega
    · rw [if_neg hn]
      omega
  rw [e2]
  exact wpAny_pure h
theorem pick_rev (xs : Array Value) : ((List.range xs.size).filterMap fun (m : Nat) => xs[(((xs.size : Int) - 1) + (m : Int) * (-1)).toNat]?).toArray = xs.toList.reverse.toArray := by
  congr 1
  apply List.ext_getElem?
  intro i
  have e : ∀ l : List Nat, (∀ m ∈ l, m < xs.size) → l.filterMap (fun (m : Nat) => xs[(((xs.size : Int) - 1) + (m : Int) * (-1)).toNat]?) = l.filterMap (fun (m : Nat) => xs[xs.size - 1 - m]?) := by
    intro l
    induction l with
    | nil => intro _; rfl
    | cons m l ih =>
      intro h
      have hm := h m List.mem_cons_self
      rw [List.filterMap_cons, List.filterMap_cons, ih fun k hk => h k (List.mem_cons_of_mem _ hk), show (((xs.size : Int) - 1) + (m : Int) * (-1)).toNat = xs.size - 1 - m by omega]
  rw [e _ fun m hm => List.mem_range.mp hm]
  have e2 : (List.range xs.size).filterMap (fun (m : Nat) => xs[xs.size - 1 - m]?) = ((List.range xs.size).map fun k => xs.size - 1 - k).filterMap (xs[·]?) := by
    rw [List.filterMap_map]; rfl
  rw [e2, PySem.W.krv_range, List.filterMap_reverse, PySem.W.krv_all]
theorem getItem_tuple_rev {t sl : Addr} {items : Array Value} {vl vu vs : Value} {Q : Value → Shared → Prop} (ht : IsTup s.heap t items) (hs : s.heap.IsSliceOf sl vl vu vs) (pl : IsPart vl none) (pu : IsPart vu none) (ps : IsPart vs (some (-1)))
    (h : Q (.ref s.heap.objs.size) { s with heap := s.heap.push { cls := .type "tuple", data := .seq items.toList.reverse.toArray } })
    (hsz : items.size ≤ sizeLine) : wpAny (model prog w) A (getItem (.ref t) (.ref sl)) Q E s := by
  have htake : sizeOk (.seq items.toList.reverse.toArray) := by
    show items.toList.reverse.toArray.size ≤ sizeLine
    rw [List.size_toArray, List.length_reverse, Array.length_toList]
    omega
  obtain ⟨os, hos, hcs, hds⟩ := id hs
  have hTs : s.TypeIs (.ref sl) "slice" := ⟨os, hos, hcs⟩
  unfold getItem
  try with_reducible refine wpAny_holding ?_
  first | refine wpAny_bind (wpAny_pure ?_) | skip
  refine wpAny_bind (wpAny_sequenceKey ht.typeIs (by decide) ?_)
  refine wpAny_bind (wpAny_callSpecial?_slot (name := Str.ofString "__getitem__") ht.typeIs PyProof.Rows.slot_tuple_getitem
    (wpAny_call_entry PyProof.Rows.slot_tuple_getitem ht.typeIs entry_tuple_getitem ?_ (args_tuple_getitem _ _)))
  show wpAny _ _ (Builtin.Tuple.tupleItemsOf (.ref t) >>= _) _ _ s
  refine wpAny_bind (tupleItemsOf_ ht ?_)
  refine wpAny_bind (wpAny_typeOf hTs ?_)
  rw [if_pos (by decide)]
  refine wpAny_bind (sliceApplied_rev hs pl pu ps ?_)
  have hno : ¬ ((((items.size : Int) - 1) == 0 && (-1 : Int) == 1 && items.size == items.size) = true) := by
    intro q
    rw [Bool.and_eq_true, Bool.and_eq_true] at q
    exact absurd q.1.2 (by decide)
  show wpAny _ _ (if (((items.size : Int) - 1) == 0 && (-1 : Int) == 1 && items.size == items.size) = true then _ else _) _ _ s
  rw [if_neg hno, pick_rev]
  first
    | exact wpAny_bind (m := Builtin.Tuple.tupleExact _) (wpAny_newObj_type (wpAny_pure ⟨_, rfl, wpAny_pure h⟩) htake)
    | exact wpAny_bind (m := Builtin.Tuple.tupleExact _) (wpAny_newObj_type (wpAny_bind (wpAny_pure (wpAny_pure ⟨_, rfl, wpAny_pure h⟩))) htake)
    | exact wpAny_bind (wpAny_bind (m := Builtin.Tuple.tupleExact _) (wpAny_newObj_type (wpAny_pure (wpAny_pure ⟨_, rfl, wpAny_pure h⟩)) htake))
    | exact wpAny_bind (wpAny_bind (m := Builtin.Tuple.tupleExact _) (wpAny_newObj_type (wpAny_pure ⟨_, rfl, wpAny_pure h⟩) htake))
end
end HT

namespace DL
open PySem PySem.Spec PyProof.Rows L2
/-! ### slices -/
abbrev XP := Rho → Mo (Option Int)
def pNo : XP := fun _ => Mo.ret none
def pSo (m : XE) : XP := fun ρ => Mo.bnd (m ρ) fun d => match d with
  | .int i => Mo.ret (some i)
  | _ => Mo.stop
def slD (lo hi : Option Int) (d : D) : Mo D := match d with
  | .tup xs => Mo.ret (.tup (cut xs lo hi))
  | .str z => if fits z.length = true then Mo.ret (.str (cutS z lo hi)) else Mo.stop
  | .scr ns => Mo.ret (.lst ((cut ns lo hi).map D.int))
  | d => fun M => match lstOf M d with
    | some xs => some (.ok (.lst (cut xs lo hi)), M)
    | none => none
def eSl (a : XE) (lo hi : XP) : XE := fun ρ => Mo.bnd (a ρ) fun d => Mo.bnd (lo ρ) fun l => Mo.bnd (hi ρ) fun h => slD l h d
def revD (d : D) : Mo D := match d with
  | .tup xs => Mo.ret (.tup xs.reverse)
  | d => fun M => match lstOf M d with
    | some xs => some (.ok (.lst xs.reverse), M)
    | none => none
section
variable {K : PySem.W.Frag} {cl : Cl} {E : XK}
variable (K cl E) in
def tP (m : XP) : TO := fun σ H Q => ∃ ρ M W, RhoR K W σ ρ ∧ HRel K cl W M H ∧ Post K cl E (fun _ (a b : Option Int) => a = b) W (m ρ M) Q
theorem Reps.cut {W : Wd} {ds : List D} {vs : List V} (h : Reps K W ds vs) (lo hi : Option Int) : Reps K W (DL.cut ds lo hi) (cutV vs lo hi) := by
  unfold DL.cut cutV
  rw [h.length]
  exact (h.drop _).take _
theorem cut_ints (ns : List Int) (lo hi : Option Int) : cutV (ns.map V.int) lo hi = (cut ns lo hi).map V.int := by
  unfold cutV cut
  rw [List.length_map, List.map_take, List.map_drop]
theorem Reps.ofInts {W : Wd} (ns : List Int) : Reps K W (ns.map D.int) (ns.map V.int) := Reps.map fun _ _ => rfl
end
section
variable {X : Cx} {cl : Cl} {E : XK} {pos : Pos} {a b e : Expr} {es : List Expr} {ma mb : XE}
theorem po_no : PO X none (tP X.K cl E pNo) := ⟨fun pins s σ H Q I ⟨ρ, M, W, hρ, hH, hp⟩ => po_none.run pins s σ H Q I (hp W H none (.refl W) rfl hH)⟩
theorem po_so {m : XE} (h : PD X cl E e m) : PO X (some e) (tP X.K cl E (pSo m)) := ⟨fun pins s σ H Q I ⟨ρ, M, W, hρ, hH, hp⟩ => (po_some h).run pins s σ H Q I ⟨ρ, M, W, hρ, hH, hp.seq fun d M1 W1 H1 v l1 r1 hH1 hp1 => by
  cases d <;> first | exact hp1.elim | exact ⟨_, r1, hp1 W1 H1 _ (.refl W1) rfl hH1⟩⟩⟩
theorem od_le : OpD X cl E (compareOp .LtE) leD := od_cmp op_le op_le_str
theorem od_gt : OpD X cl E (compareOp .Gt) gtD := od_cmp op_gt op_gt_str
theorem od_ge : OpD X cl E (compareOp .GtE) geD := od_cmp op_ge op_ge_str
theorem pd_sl {lo hi : Option Expr} {p2 : Pos} {mlo mhi : XP} (he : PD X cl E e ma) (hl : PO X lo (tP X.K cl E mlo)) (hu : PO X hi (tP X.K cl E mhi)) : PD X cl E (.Subscript e (.Slice lo hi none p2) pos) (eSl ma mlo mhi) :=
  PE.imp (pe_slice (sl_list.or (sl_tupN.or sl_str)) he hl hu) fun σ H Q ⟨ρ, M, W, hρ, hH, hp⟩ => ⟨ρ, M, W, hρ, hH, hp.seq fun d M1 W1 H1 v l1 r1 hH1 hp1 => ⟨ρ, M1, W1, hρ.up l1, hH1, hp1.seq fun lo M2 W2 H2 lo' l2 q2 hH2 hp2 => by
    subst q2
    refine ⟨ρ, M2, W2, hρ.up (l1.trans l2), hH2, hp2.seq fun hi M3 W3 H3 hi' l3 q3 hH3 hp3 => ?_⟩
    subst q3
    have r3 := r1.up (l2.trans l3)
    have lists : ∀ xs, lstOf M3 d = some xs → slD lo hi d M3 = some (.ok (.lst (cut xs lo hi)), M3) → rSlL X.K v lo hi H3 Q := fun xs e z => by
      obtain ⟨a, vs, z1, s1, q1⟩ := lst_of hH3 r3 e
      refine ⟨a, vs, z1, .inl s1, fun p hn => ?_⟩
      rw [z] at hp3
      obtain ⟨W4, l4, h4, r4⟩ := hH3.mkLst (q1.cut lo hi) hn
      exact hp3 W4 _ _ l4 r4 h4
    cases d with
    | tup xs =>
      obtain ⟨a, vs, z1, s1, q1⟩ := sqT_of hH3 r3
      refine .inr (.inl ⟨a, vs, z1, s1, fun z => ?_, fun _ p o ho hn => ?_⟩)
      · refine hp3 W3 H3 _ (.refl W3) ?_ hH3
        have e : cut xs lo hi = xs := by
          unfold cut
          rw [← q1.length, z.1, z.2, List.drop_zero, q1.length]
          exact List.take_of_length_le (by omega)
        rw [e]
        exact z1 ▸ r3
      · obtain ⟨W4, l4, h4, r4⟩ := hH3.mkTup (q1.cut lo hi) ho hn
        exact hp3 W4 _ _ l4 r4 h4
    | str z =>
      have hp3 : Post X.K cl E (Rep X.K) W3 ((if fits z.length = true then Mo.ret (.str (cutS z lo hi)) else Mo.stop : Mo D) M3) Q := hp3
      by_cases c : fits z.length = true
      · rw [if_pos c] at hp3
        exact .inr (.inr ⟨z, r3, fits_le c, hp3 W3 H3 _ (.refl W3) rfl hH3⟩)
      · rw [if_neg c] at hp3; exact hp3.elim
    | scr ns =>
      obtain ⟨a, z1, s1⟩ := r3
      refine .inl ⟨a, _, z1, sqL_mono hH3.gle s1, fun p hn => ?_⟩
      rw [cut_ints]
      obtain ⟨W4, l4, h4, r4⟩ := hH3.mkLst (Reps.ofInts (cut ns lo hi)) hn
      exact hp3 W4 _ _ l4 r4 h4
    | lst xs => exact .inl (lists xs rfl rfl)
    | obj n =>
      cases e : lstOf M3 (.obj n) with
      | none =>
        have z : slD lo hi (.obj n) M3 = none := by unfold slD; simp only [e]
        rw [z] at hp3; exact hp3.elim
      | some xs => exact .inl (lists xs e (by unfold slD; simp only [e]))
    | _ => exact hp3.elim⟩⟩
/-- x[::-1] -/
theorem pe_revT {te : TE} {k : Nat} {p1 p2 p3 pos : Pos} (he : PE X e te) : PE X (.Subscript e (.Slice none none (some (.UnaryOp .USub (.Constant (.int 1) k p1) p2)) p3) pos)
    (fun σ H Q => te σ H fun x H1 => ∃ a xs, x = .ref a ∧ ((SqL X.K H1 a xs ∧ ∀ p, H1 p = none → Q (.ref p) (upd H1 p (.lst xs.reverse))) ∨ (SqT X.K H1 a xs ∧ NewT Q H1 xs.reverse))) := by
  refine ⟨fun pins s σ H Q I h => ?_⟩
  refine Subscript_ (thn (he.run pins s σ H _ I h) fun v s1 ⟨x, H1, I1, r1, q1⟩ => ?_)
  obtain ⟨a, xs, ex, q⟩ := q1
  subst ex
  cases r1
  have hst : PO X (some (.UnaryOp .USub (.Constant (.int 1) k p1) p2)) (tPart (tUn (rU fun i => .int (-i)) (tC (.int 1)))) := po_some (pe_un un_neg pe_int)
  refine wpAny_Slice (thn (po_none.run pins s1 σ H1 (fun o H2 => o = none ∧ H2 = H1) I1 ⟨rfl, rfl⟩) fun vl s2 ⟨l, H2, I2, pl, el, e2⟩ => ?_)
  subst el e2
  refine thn (po_none.run pins s2 σ H2 (fun o H3 => o = none ∧ H3 = H2) I2 ⟨rfl, rfl⟩) fun vu s3 ⟨u, H3, I3, pu, eu, e3⟩ => ?_
  subst eu e3
  refine thn (hst.run pins s3 σ H3 (fun o H4 => o = some (-1) ∧ H4 = H3) I3 ⟨1, rfl, -1, rfl, rfl, rfl⟩) fun vs s4 ⟨o, H4, I4, ps, eo, e4⟩ => ?_
  subst eo e4
  have I5 : Inv X pins σ H4 { s4 with heap := s4.heap.push { cls := .type "slice", data := .fields #[vl, vu, vs] } } := I4.kept (t' := s4.toks) fun b ob q => Heap.get?_push_of_some _ q
  show wpAny (model X.prog X.w) X.A (subscriptTail e (.Slice none none (some (.UnaryOp .USub (.Constant (.int 1) k p1) p2)) p3) (.ref a) (.ref s4.heap.objs.size)) (EP X pins σ Q) X.xe { s4 with heap := s4.heap.push { cls := .type "slice", data := .fields #[vl, vu, vs] } }
  rcases q with ⟨hx, q⟩ | ⟨hx, q⟩
  · obtain ⟨its, r, ht, hz⟩ := I5.list hx
    have hlen := r.length
    refine tail_any (ops := [.ref a, .ref s4.heap.objs.size]) ht.isList.typeIs (PySem.slot_list_getitem.lookup) ?_ (by with_unfolding_all rfl)
    refine wpAny_getItem_list_slice ht.isList (Heap.IsSliceOf.new _ vl vu vs) pl pu ps (by decide) ?_ (by rw [List.size_toArray]; omega)
    rw [PySem.W.krv_pick]
    refine ⟨.ref _, _, I5.laid (t' := s4.toks) (o := .lst xs.reverse) (fun b ob q => Heap.get?_push_of_some _ q) (Nat.le_refl _) ?_, rfl, q _ (I5.hok.fresh (Nat.le_refl _))⟩
    exact ⟨by rw [List.length_reverse]; exact hz, _, 0, r.reverse, Heap.get?_push_size _ rfl⟩
  · obtain ⟨its, r, ht, hz⟩ := I5.tuple hx
    have hlen := r.length
    refine tail_any (ops := [.ref a, .ref s4.heap.objs.size]) ht.typeIs (PyProof.Rows.slot_tuple_getitem.lookup) ?_ (by with_unfolding_all rfl)
    refine HT.getItem_tuple_rev ht (Heap.IsSliceOf.new _ vl vu vs) pl pu ps ?_ (by rw [List.size_toArray]; omega)
    obtain ⟨n6, J⟩ := Inv.tnew (g' := s4.heap.push { cls := .type "slice", data := .fields #[vl, vu, vs] }) I5 r.reverse (by rw [List.length_reverse]; exact hz) (fun _ _ e => e) s4.toks
    exact ⟨.ref _, _, J, rfl, q _ _ rfl n6⟩
theorem pd_rev {k : Nat} {p1 p2 p3 pos : Pos} (he : PD X cl E e ma) : PD X cl E (.Subscript e (.Slice none none (some (.UnaryOp .USub (.Constant (.int 1) k p1) p2)) p3) pos) (e1 revD ma) :=
  PE.imp (pe_revT he) fun σ H Q ⟨ρ, M, W, hρ, hH, hp⟩ => ⟨ρ, M, W, hρ, hH, hp.seq fun d M1 W1 H1 v l1 r1 hH1 hp1 => by
    have lists : ∀ xs, lstOf M1 d = some xs → revD d M1 = some (.ok (.lst xs.reverse), M1) → ∃ a xs, v = .ref a ∧ ((SqL X.K H1 a xs ∧ ∀ p, H1 p = none → Q (.ref p) (upd H1 p (.lst xs.reverse))) ∨ (SqT X.K H1 a xs ∧ NewT Q H1 xs.reverse)) := fun xs e z => by
      obtain ⟨a, vs, z1, s1, q1⟩ := lst_of hH1 r1 e
      rw [z] at hp1
      refine ⟨a, vs, z1, .inl ⟨.inl s1, fun p hn => ?_⟩⟩
      obtain ⟨W4, l4, h4, r4⟩ := hH1.mkLst q1.reverse hn
      exact hp1 W4 _ _ l4 r4 h4
    cases d with
    | tup xs =>
      obtain ⟨a, vs, z1, s1, q1⟩ := sqT_of hH1 r1
      refine ⟨a, vs, z1, .inr ⟨s1, fun p o ho hn => ?_⟩⟩
      obtain ⟨W4, l4, h4, r4⟩ := hH1.mkTup q1.reverse ho hn
      exact hp1 W4 _ _ l4 r4 h4
    | lst xs => exact lists xs rfl rfl
    | obj n =>
      cases e : lstOf M1 (.obj n) with
      | none =>
        have z : revD (.obj n) M1 = none := by unfold revD; simp only [e]
        rw [z] at hp1; exact hp1.elim
      | some xs => exact lists xs e (by unfold revD; simp only [e])
    | _ => exact hp1.elim⟩
/-! ### items -/
theorem atI_rep {K : PySem.W.Frag} {W : Wd} {ds : List D} {vs : List V} {i : Int} {d : D} (r : Reps K W ds vs) (h : atI ds i = some d) : ∃ v, atI vs i = some v ∧ Rep K W d v := by
  unfold atI at h ⊢
  rw [r.length]
  obtain ⟨j, e, h2⟩ := Option.bind_eq_some_iff.mp h
  obtain ⟨v, e2, r2⟩ := r.get h2
  exact ⟨v, by rw [e]; exact e2, r2⟩
theorem ix_ok (hu : X.A.units + 100 < cLine) (hw : cl.w = X.w) : IxR X (rD2 X cl E ixD) := IxR.imp (IxR.or (ix_list.or (ix_tup.or ix_str)) (ix_dct (cl := cl) hu hw)) fun x y H Q ⟨d, e, M, W, r1, r2, hH, hp⟩ => by
  have dct : ∀ {P : Prop}, ixD d e M = dGet M d e → P ∨ ∃ d e M W o, Rep X.K W d x ∧ Rep X.K W e y ∧ HRel X.K cl W M H ∧ dAt M d e = some (some o) ∧ ∀ u, Rep X.K W o u → Q u H := fun {P} z => by
    rw [z] at hp
    unfold dGet at hp
    cases e1 : dAt M d e with
    | none => rw [e1] at hp; exact hp.elim
    | some o =>
      cases o with
      | none => rw [e1] at hp; exact hp.elim
      | some v =>
        rw [e1] at hp
        exact .inr ⟨d, e, M, W, v, r1, r2, hH, e1, fun u ru => hp W H u (.refl W) ru hH⟩
  cases e with
  | int i =>
    have seqs : ∀ xs, seqOf M d = some xs → (ixD d (.int i) M = match atI xs i with | some v => some (.ok v, M) | none => none) → ∃ p vs v, x = .ref p ∧ (SqL X.K H p vs ∨ SqT X.K H p vs) ∧ atI vs i = some v ∧ Q v H := fun xs e z => by
      obtain ⟨a, vs, z1, s1, q1⟩ := seq_of hH r1 e
      rw [z] at hp
      cases e2 : atI xs i with
      | none => rw [e2] at hp; exact hp.elim
      | some v =>
        rw [e2] at hp
        obtain ⟨v', e3, r3⟩ := atI_rep q1 e2
        exact ⟨a, vs, v', z1, s1, e3, hp W H v' (.refl W) r3 hH⟩
    have fin : (∃ p vs v, x = .ref p ∧ (SqL X.K H p vs ∨ SqT X.K H p vs) ∧ atI vs i = some v ∧ Q v H) → rIxL X.K x y H Q ∨ rIxT X.K x y H Q ∨ rIxS x y H Q := fun ⟨p, vs, v, z1, s1, e3, q⟩ => by
      rcases s1 with s1 | s1
      · exact .inl ⟨p, vs, i, v, z1, r2, s1, e3, q⟩
      · exact .inr (.inl ⟨p, vs, i, v, z1, r2, s1, e3, q⟩)
    cases d with
    | str z =>
      by_cases c : z.length ≤ sizeLine
      · cases e2 : atI z.cps.toList i with
        | none =>
          have e3 : ixD (.str z) (.int i) M = none := by unfold ixD; simp only [e2]; split <;> simp_all
          rw [e3] at hp; exact hp.elim
        | some ch =>
          have e3 : ixD (.str z) (.int i) M = some (.ok (.str ⟨#[ch]⟩), M) := by unfold ixD; simp only [e2, decide_eq_true c]
          rw [e3] at hp
          exact .inl (.inr (.inr ⟨z, i, ch, r1, r2, c, e2, hp W H _ (.refl W) rfl hH⟩))
      · have e3 : ixD (.str z) (.int i) M = none := by unfold ixD; simp only [decide_eq_false c]
        rw [e3] at hp; exact hp.elim
    | tup xs => exact .inl (fin (seqs xs rfl rfl))
    | lst xs => exact .inl (fin (seqs xs rfl rfl))
    | obj n =>
      cases e : seqOf M (.obj n) with
      | none => exact dct (by unfold ixD; simp only [e])
      | some xs => exact .inl (fin (seqs xs e (by unfold ixD; simp only [e]; try (cases atI xs i <;> rfl))))
    | _ => exact dct rfl
  | _ => exact dct (by cases d <;> rfl)
theorem pd_ix (hu : X.A.units + 100 < cLine) (hw : cl.w = X.w) (ha : PD X cl E a ma) (hb : PD X cl E b mb) (hs : PlainIx b := by exact fun _ _ => rfl) : PD X cl E (.Subscript a b pos) (e2 ixD ma mb) := PE.imp (pe_ix (ix_ok hu hw) ha hb hs) (tOp_of fun _ _ _ _ h => h)
/-! ### the small built-ins -/
theorem Reps.one_of {K : PySem.W.Frag} {W : Wd} {d : D} {vs : List V} (r : Reps K W [d] vs) : ∃ v, vs = [v] ∧ Rep K W d v := by
  obtain ⟨v, us, e, r1, r2⟩ := r
  exact ⟨v, by rw [e, show us = [] from r2], r1⟩
theorem cd_len : CallD X cl E (.builtin "len") lenD := CallR.imp call_len fun vs H Q ⟨ds, M, W, r, hH, hp⟩ => by
  match ds, r, hp with
  | [d], r, hp =>
    obtain ⟨v, rfl, r1⟩ := r.one_of
    have seqs : ∀ xs, seqOf M d = some xs → (lenD [d] M = some (.ok (.int xs.length), M)) → ∃ x n, [v] = [x] ∧ LenV X.K x H n ∧ Q (.int n) H := fun xs e z => by
      obtain ⟨a, us, z1, s1, q1⟩ := seq_of hH r1 e
      subst z1
      rw [z] at hp
      have q := hp W H _ (.refl W) rfl hH
      rcases s1 with s1 | s1
      · exact ⟨_, us.length, rfl, .inl ⟨us, s1, rfl⟩, by rw [q1.length]; exact q⟩
      · exact ⟨_, us.length, rfl, .inr ⟨us, s1, rfl⟩, by rw [q1.length]; exact q⟩
    cases d with
    | str z =>
      have hp : Post X.K cl E (Rep X.K) W ((if fits z.length = true then some (.ok (.int z.length), M) else none : Out D)) Q := hp
      by_cases c : fits z.length = true
      · rw [if_pos c] at hp
        rw [show v = _ from r1]
        exact ⟨_, z.length, rfl, ⟨fits_le c, rfl⟩, hp W H _ (.refl W) rfl hH⟩
      · rw [if_neg c] at hp; exact hp.elim
    | tup xs => exact seqs xs rfl rfl
    | lst xs => exact seqs xs rfl rfl
    | obj n =>
      cases e : seqOf M (.obj n) with
      | none =>
        have z : lenD [.obj n] M = none := by unfold lenD; simp only [e]
        rw [z] at hp; exact hp.elim
      | some xs => exact seqs xs e (by unfold lenD; simp only [e])
    | _ => exact hp.elim
  | [], _, hp => exact hp.elim
  | d :: _ :: _, _, hp => cases d <;> exact hp.elim
theorem cd_abs : CallD X cl E (.builtin "abs") absD := CallR.imp call_abs fun vs H Q ⟨ds, M, W, r, hH, hp⟩ => by
  match ds, r, hp with
  | [d], r, hp =>
    obtain ⟨v, rfl, r1⟩ := r.one_of
    cases d with
    | int i =>
      rw [show v = _ from r1]
      refine ⟨i, rfl, ?_⟩
      have e : (if i < 0 then -i else i) = (i.natAbs : Int) := by split <;> omega
      rw [e]
      exact hp W H _ (.refl W) rfl hH
    | _ => exact hp.elim
  | [], _, hp => exact hp.elim
  | d :: _ :: _, _, hp => cases d <;> exact hp.elim
theorem cd_int : CallD X cl E (.type "int") intD := CallR.imp call_int1 fun vs H Q ⟨ds, M, W, r, hH, hp⟩ => by
  match ds, r, hp with
  | [d], r, hp =>
    obtain ⟨v, rfl, r1⟩ := r.one_of
    cases d <;> first
      | exact hp.elim
      | (rw [show v = _ from r1]; exact .inl ⟨_, rfl, hp W H _ (.refl W) rfl hH⟩)
  | [], _, hp => exact hp.elim
  | d :: _ :: _, _, hp => cases d <;> exact hp.elim
theorem cd_str : CallD X cl E (.type "str") strD := CallR.imp call_str_int fun vs H Q ⟨ds, M, W, r, hH, hp⟩ => by
  match ds, r, hp with
  | [d], r, hp =>
    obtain ⟨v, rfl, r1⟩ := r.one_of
    cases d <;> first
      | exact hp.elim
      | (rename_i i
         have hp : Post X.K cl E (Rep X.K) W ((if decide (i.natAbs.log2 < 1920) = true then Mo.ret (.str (toString i)) else Mo.stop : Mo D) M) Q := hp
         by_cases c : decide (i.natAbs.log2 < 1920) = true
         · rw [if_pos c] at hp
           rw [show v = _ from r1]; exact ⟨_, rfl, of_decide_eq_true c, hp W H _ (.refl W) rfl hH⟩
         · rw [if_neg c] at hp; exact hp.elim)
  | [], _, hp => exact hp.elim
  | d :: _ :: _, _, hp => cases d <;> exact hp.elim
theorem seq1 {g : List D → Mo D} {f : List D → D} {d : D} {M : MS} {W : Wd} {H : Hp} {v : V} {Q : VK} {P : Prop} (hH : HRel X.K cl W M H) (r1 : Rep X.K W d v) (hp : Post X.K cl E (Rep X.K) W (g [d] M) Q)
    (hg : ∀ xs, seqOf M d = some xs → g [d] M = some (.ok (f xs), M)) (hn : seqOf M d = none → g [d] M = none)
    (k : ∀ xs a us, v = .ref a → (SqL X.K H a us ∨ SqT X.K H a us) → Reps X.K W xs us → seqOf M d = some xs → (∀ W' H' u, W.le W' → Rep X.K W' (f xs) u → HRel X.K cl W' M H' → Q u H') → P) : P := by
  cases e : seqOf M d with
  | none => rw [hn e] at hp; exact hp.elim
  | some xs =>
    rw [hg xs e] at hp
    obtain ⟨a, us, z1, s1, q1⟩ := seq_of hH r1 e
    exact k xs a us z1 s1 q1 e hp
theorem cd_list (hc : X.calm = true) (hw : cl.w = X.w) : CallD X cl E (.type "list") listD := CallR.imp (call_list_of.or (call_list_dF hc)) fun vs H Q ⟨ds, M, W, r, hH, hp⟩ => by
  match ds, r, hp with
  | [d], r, hp =>
    obtain ⟨v, rfl, r1⟩ := r.one_of
    have seqs : (∀ xs, seqOf M d = some xs → listD [d] M = some (.ok (.lst xs), M)) → (seqOf M d = none → listD [d] M = match dKeys M d with | some xs => some (.ok (.lst xs), M) | none => none) →
        (∃ p ys, [v] = [.ref p] ∧ (SqL X.K H p ys ∨ SqT X.K H p ys) ∧ ∀ l, H l = none → Q (.ref l) (upd H l (.lst ys))) ∨ ∃ a xs, [v] = [V.ref a] ∧ H a = some (.ext (DfObj X.w a xs)) ∧ xs.length ≤ sizeLine ∧ ∀ p, H p = none → Q (.ref p) (upd H p (.lst (xs.map fun q => V.ref q.2.1))) := fun hg hn => by
      cases e : seqOf M d with
      | some xs =>
        rw [hg xs e] at hp
        obtain ⟨a, us, z, s, q⟩ := seq_of hH r1 e
        refine .inl ⟨a, us, by rw [z], s, fun l hl => ?_⟩
        obtain ⟨W4, l4, h4, r4⟩ := hH.mkLst q hl
        exact hp W4 _ _ l4 r4 h4
      | none =>
        rw [hn e] at hp
        cases e2 : dKeys M d with
        | none => rw [e2] at hp; exact hp.elim
        | some xs =>
          rw [e2] at hp
          cases d with
          | obj n =>
            cases em : M[n]? with
            | none => simp [dKeys, em] at e2
            | some mo =>
              cases mo with
              | dF kvs =>
                have e3 : (if kvs.length ≤ sizeLine then some (kvs.map (·.2.1)) else none) = some xs := by simpa [dKeys, em] using e2
                by_cases c : kvs.length ≤ sizeLine
                · rw [if_pos c] at e3
                  cases e3
                  obtain ⟨b, rfl, eb⟩ := r1
                  obtain ⟨ys, ho, pr⟩ := hH.getDF em eb
                  rw [hw] at ho
                  refine .inr ⟨b, ys, rfl, ho, by rw [← Paired.length pr]; exact c, fun l hl => ?_⟩
                  obtain ⟨W4, l4, h4, r4⟩ := hH.mkLst (keys_rep pr) hl
                  exact hp W4 _ _ l4 r4 h4
                · rw [if_neg c] at e3; cases e3
              | _ => simp [dKeys, em] at e2
          | _ => cases e2
    cases d with
    | scr ns =>
      obtain ⟨a, z1, s1⟩ := r1
      rw [z1]
      refine .inl ⟨a, _, rfl, .inl (sqL_mono hH.gle s1), fun p hn => ?_⟩
      obtain ⟨W4, l4, h4, r4⟩ := hH.mkLst (Reps.ofInts ns) hn
      exact hp W4 _ _ l4 r4 h4
    | _ => exact seqs (fun xs e => by unfold listD; simp only [e]) (fun e => by unfold listD; first | (simp only [e]; done) | (simp only [e]; rfl))
  | [], _, hp => exact hp.elim
  | d :: _ :: _, _, hp => cases d <;> exact hp.elim

theorem lst1 {P : Prop} {g : List D → Mo D} {f : List D → D} {d : D} {M : MS} {W : Wd} {H : Hp} {v : V} {Q : VK} (hH : HRel X.K cl W M H) (r1 : Rep X.K W d v) (hp : Post X.K cl E (Rep X.K) W (g [d] M) Q)
    (hg : ∀ xs, lstOf M d = some xs → g [d] M = some (.ok (f xs), M)) (hn : lstOf M d = none → g [d] M = none)
    (k : ∀ xs a us, v = .ref a → Rd H a (.lst us) → Reps X.K W xs us → (∀ W' H' u, W.le W' → Rep X.K W' (f xs) u → HRel X.K cl W' M H' → Q u H') → P) : P := by
  cases e : lstOf M d with
  | none => rw [hn e] at hp; exact hp.elim
  | some xs =>
    rw [hg xs e] at hp
    obtain ⟨a, us, z1, s1, q1⟩ := lst_of hH r1 e
    exact k xs a us z1 s1 q1 hp
theorem cd_tuple : CallD X cl E (.type "tuple") tupleD := CallR.imp call_tupN fun vs H Q ⟨ds, M, W, r, hH, hp⟩ => by
  match ds, r, hp with
  | [d], r, hp =>
    obtain ⟨v, rfl, r1⟩ := r.one_of
    have lists : (∀ xs, lstOf M d = some xs → tupleD [d] M = some (.ok (.tup xs), M)) → (lstOf M d = none → tupleD [d] M = none) → ∃ p ys, [v] = [.ref p] ∧ ((SqL X.K H p ys ∧ NewT Q H ys) ∨ (SqT X.K H p ys ∧ Q (.ref p) H)) := fun hg hn =>
      lst1 (f := D.tup) hH r1 hp hg hn fun xs a us z s q k => ⟨a, us, by rw [z], .inl ⟨.inl s, fun l o ho hl => by
        obtain ⟨W4, l4, h4, r4⟩ := hH.mkTup q ho hl
        exact k W4 _ _ l4 r4 h4⟩⟩
    cases d with
    | tup ys =>
      obtain ⟨a, us, z, s, q⟩ := sqT_of hH r1
      exact ⟨a, us, by rw [z], .inr ⟨s, z ▸ hp W H v (.refl W) r1 hH⟩⟩
    | lst xs => exact lists (fun xs e => by unfold tupleD; simp only [seqOf, e]) (fun e => nomatch e)
    | obj n => exact lists (fun xs e => by unfold tupleD; simp only [seqOf, e]) (fun e => by unfold tupleD; simp only [seqOf, e])
    | _ => exact hp.elim
  | [], _, hp => exact hp.elim
  | d :: _ :: _, _, hp => cases d <;> exact hp.elim
theorem blsOf_rep {K : PySem.W.Frag} {W : Wd} : ∀ {ds : List D} {vs : List V} {bs : List Bool}, Reps K W ds vs → blsOf ds = some bs → vs = bs.map V.bl
  | [], _, _, r, h => by cases h; exact r
  | d :: ds, _, bs, ⟨v, us, e, r, q⟩, h => by
    cases d with
    | bl b =>
      obtain ⟨cs, e2, rfl⟩ := Option.map_eq_some_iff.mp (show (blsOf ds).map (b :: ·) = some bs from h)
      rw [e, show v = _ from r, blsOf_rep q e2]; rfl
    | _ => cases h
theorem intsOf_rep {K : PySem.W.Frag} {W : Wd} : ∀ {ds : List D} {vs : List V} {bs : List Int}, Reps K W ds vs → intsOf ds = some bs → vs = bs.map V.int
  | [], _, _, r, h => by cases h; exact r
  | d :: ds, _, bs, ⟨v, us, e, r, q⟩, h => by
    cases d with
    | int b =>
      obtain ⟨cs, e2, rfl⟩ := Option.map_eq_some_iff.mp (show (intsOf ds).map (b :: ·) = some bs from h)
      rw [e, show v = _ from r, intsOf_rep q e2]; rfl
    | _ => cases h
theorem cd_all (hc : X.calm = true) : CallD X cl E (.builtin "all") allD := CallR.imp (cr_all hc) fun vs H Q ⟨ds, M, W, r, hH, hp⟩ => by
  match ds, r, hp with
  | [d], r, hp =>
    obtain ⟨v, rfl, r1⟩ := r.one_of
    have hp : Post X.K cl E (Rep X.K) W (match (lstOf M d).bind blsOf with | some bs => some (.ok (.bl (bs.all id)), M) | none => none) Q := by cases d <;> exact hp
    cases e : (lstOf M d).bind blsOf with
    | none => rw [e] at hp; exact hp.elim
    | some bs =>
      rw [e] at hp
      obtain ⟨xs, e1, e2⟩ := Option.bind_eq_some_iff.mp e
      obtain ⟨a, us, z1, s1, q1⟩ := lst_of hH r1 e1
      exact ⟨a, bs, by rw [z1], by rw [← blsOf_rep q1 e2]; exact .inl s1, hp W H _ (.refl W) rfl hH⟩
  | [], _, hp => exact hp.elim
  | d :: _ :: _, _, hp => cases d <;> exact hp.elim
theorem cd_sum (hc : X.calm = true) : CallD X cl E (.builtin "sum") sumD := CallR.imp (cr_sum hc) fun vs H Q ⟨ds, M, W, r, hH, hp⟩ => by
  match ds, r, hp with
  | [d], r, hp =>
    obtain ⟨v, rfl, r1⟩ := r.one_of
    have hp : Post X.K cl E (Rep X.K) W (match (lstOf M d).bind intsOf with | some bs => some (.ok (.int bs.sum), M) | none => none) Q := by cases d <;> exact hp
    cases e : (lstOf M d).bind intsOf with
    | none => rw [e] at hp; exact hp.elim
    | some bs =>
      rw [e] at hp
      obtain ⟨xs, e1, e2⟩ := Option.bind_eq_some_iff.mp e
      obtain ⟨a, us, z1, s1, q1⟩ := lst_of hH r1 e1
      exact ⟨a, bs, by rw [z1], by rw [← intsOf_rep q1 e2]; exact .inl s1, hp W H _ (.refl W) rfl hH⟩
  | [], _, hp => exact hp.elim
  | d :: _ :: _, _, hp => cases d <;> exact hp.elim
/-! ### isinstance(x, T), T a built-in class -/
theorem tyx_tup {K : PySem.W.Frag} {H : Hp} {a : Addr} {vs : List V} (s : SqT K H a vs) : TyX K H (.ref a) (.type "tuple") := by
  rcases s with (s | ⟨o, s⟩) | ⟨o, its, n, e, c, _⟩
  · exact .base (.tup s)
  · exact .fTuple s
  · exact .kTuple e c
theorem tyx_lst {K : PySem.W.Frag} {H : Hp} {a : Addr} {vs : List V} (s : Rd H a (.lst vs)) : TyX K H (.ref a) (.type "list") := by
  rcases s with s | ⟨o, s⟩
  · exact .base (.lst s)
  · exact .base (.frz s)
theorem isT_kit (T : Ty) : kitB "NoneType" T.nm = some false ∧ (kitB "bool" T.nm = some (match T with | .int => true | .bool => true | _ => false)) ∧ (kitB "int" T.nm = some (match T with | .int => true | _ => false)) ∧
    (kitB "str" T.nm = some (match T with | .str => true | _ => false)) ∧ (kitB "tuple" T.nm = some (match T with | .tuple => true | _ => false)) ∧ (kitB "list" T.nm = some (match T with | .list => true | _ => false)) ∧ (kitB "dict" T.nm = some false) := by
  cases T <;> decide +kernel
theorem pd_isi (T : Ty) {x : Str} {p p2 : Pos} (hg : Gl X "isinstance") (hm : X.mg "isinstance" = none) (hg2 : Gl X x) (hm2 : X.mg x = none) (hv : bootBuiltins "isinstance" = some (.builtin "isinstance")) (hv2 : bootBuiltins x = some (.type T.nm)) (he : PD X cl E e ma)
    (hn : x ≠ "__name__" := by decide) (hdb : (x == ("__debug__" : Str)) = false := by decide)
    (hs : starEach [e, .Name x p2] X.env = (false, eval e X.env) :: starEach [.Name x p2] X.env := by rfl) (hs1 : starEach [.Name x p2] X.env = (false, eval (.Name x p2) X.env) :: starEach [] X.env := by rfl) (hpl : (backTo pos (starEach [.Name x p2] X.env)).any (·.1) = false := by rfl) :
    PD X cl E (.Call (.Name "isinstance" p) [e, .Name x p2] [] pos) (e1 (isiD T) ma) :=
  PE.imp (pe_callB call_isi hg hm hv (pa_cons he (pa_cons (pe_bltn (v := .ty T.nm) hg2 hm2 hv2 rfl hn hdb) pa_nil hs1) hs) (by decide) (by decide) hs hpl) fun σ H Q ⟨ρ, M, W, hρ, hH, hp⟩ => ⟨ρ, M, W, hρ, hH, hp.seq fun d M1 W1 H1 v l1 r1 hH1 hp1 => by
    obtain ⟨k0, k1, k2, k3, k4, k5, k6⟩ := isT_kit T
    have fin : ∀ t b, TyX X.K H1 v (.type t) → kitB t T.nm = some b → Q (.bl b) H1 → rIsi X.K [v, .ty T.nm] H1 Q := fun t b ty k q => ⟨v, _, _, _, b, rfl, .ty _, ty, kit_ty k, q⟩
    cases d with
    | non => rw [show v = _ from r1]; exact ⟨_, _, _, _, _, rfl, .ty _, .base .non, kit_ty k0, by cases T <;> exact hp1 W1 H1 _ (.refl W1) rfl hH1⟩
    | bl b => rw [show v = _ from r1]; exact ⟨_, _, _, _, _, rfl, .ty _, .base (.bl _), kit_ty k1, by cases T <;> exact hp1 W1 H1 _ (.refl W1) rfl hH1⟩
    | int b => rw [show v = _ from r1]; exact ⟨_, _, _, _, _, rfl, .ty _, .base (.int _), kit_ty k2, by cases T <;> exact hp1 W1 H1 _ (.refl W1) rfl hH1⟩
    | str b => rw [show v = _ from r1]; exact ⟨_, _, _, _, _, rfl, .ty _, .base (.str _), kit_ty k3, by cases T <;> exact hp1 W1 H1 _ (.refl W1) rfl hH1⟩
    | tup xs =>
      obtain ⟨a, us, z, s, q⟩ := sqT_of hH1 r1
      rw [z]; exact ⟨_, _, _, _, _, rfl, .ty _, tyx_tup s, kit_ty k4, by cases T <;> exact hp1 W1 H1 _ (.refl W1) rfl hH1⟩
    | lst xs =>
      obtain ⟨a, us, z, s, q⟩ := lst_of hH1 r1 rfl
      rw [z]; exact ⟨_, _, _, _, _, rfl, .ty _, tyx_lst s, kit_ty k5, by cases T <;> exact hp1 W1 H1 _ (.refl W1) rfl hH1⟩
    | emp =>
      obtain ⟨a, z, s⟩ := r1
      rw [z]; exact ⟨_, _, _, _, _, rfl, .ty _, .base (.dK (hH1.gle _ _ s)), kit_ty k6, by cases T <;> exact hp1 W1 H1 _ (.refl W1) rfl hH1⟩
    | scr _ => exact hp1.elim
    | obj n =>
      cases e : lstOf M1 (.obj n) with
      | none =>
        have z : isiD T (.obj n) M1 = none := by unfold isiD; simp only [e]
        rw [z] at hp1; exact hp1.elim
      | some xs =>
        have z : isiD T (.obj n) M1 = some (.ok (.bl (isT T (.obj n))), M1) := by unfold isiD; simp only [e]
        rw [z] at hp1
        obtain ⟨a, us, z, s, q⟩ := lst_of hH1 r1 e
        rw [z]; exact ⟨_, _, _, _, _, rfl, .ty _, tyx_lst s, kit_ty k5, by cases T <;> exact hp1 W1 H1 _ (.refl W1) rfl hH1⟩⟩
/-! ### {} -/
theorem pd_emp {pos : Pos} : PD X cl E (.Dict [] [] pos) (eC .emp) := PE.imp pe_dnewK fun σ H Q ⟨ρ, M, W, hρ, hH, hp⟩ => fun d hd => hp _ _ _ (hH.frz hd).1 ⟨d, rfl, upd_same⟩ (hH.frz (o := .dK []) hd).2
/-! ### * -/
def mulD : D → D → Mo D
  | .int i, .int j => if mulOk i j = true then Mo.ret (.int (i * j)) else Mo.stop
  | .lst xs, .int k => if (decide (-(2 ^ 63) ≤ k) && decide (k < 2 ^ 63) && fits (xs.length * k.toNat)) = true then Mo.ret (.lst (List.replicate k.toNat xs).flatten) else Mo.stop
  | _, _ => Mo.stop
theorem op_repR : OpR X (binaryOp .Mult) (fun x y H Q => ∃ l k xs, x = .ref l ∧ y = .int k ∧ Rd H l (.lst xs) ∧ -(2 ^ 63) ≤ k ∧ k < 2 ^ 63 ∧ xs.length * k.toNat ≤ sizeLine ∧
  ∀ p, H p = none → Q (.ref p) (upd H p (.lst (List.replicate k.toNat xs).flatten))) := by
  intro pins s σ H x y v u Q I rx ry h
  obtain ⟨l, k, xs, rfl, rfl, hH, h1, h2, hz, q⟩ := h
  cases rx
  obtain ⟨t, rfl⟩ := ry
  obtain ⟨z, its, n, r, e⟩ := hH.ok I.hok
  have hl : xs.length = its.length := r.length
  have hlen : its.toArray.size * k.toNat ≤ sizeLine := by rw [List.size_toArray, ← hl]; exact hz
  have hcap : ¬ its.toArray.size * k.toNat > (2 ^ 63 - 1) / 8 := by
    have : (sizeLine : Nat) ≤ (2 ^ 63 - 1) / 8 := by decide
    omega
  have hfit : ¬ (!Builtin.List.listFitsIndex k) = true := by
    rw [fitsIndex_both h1 h2]
    exact Bool.false_ne_true
  have hlong : ¬ Builtin.List.listTooLong (its.toArray.size * k.toNat) = true := by
    rw [notLongL hlen]
    exact Bool.false_ne_true
  have hnew : List.foldl (fun x1 x2 => x1 ++ x2) #[] (List.replicate (if its.toArray.isEmpty = true then 0 else k.toNat) its.toArray) = (List.replicate k.toNat its).flatten.toArray := by
    have f0 : ∀ m : Nat, List.foldl (fun x1 x2 => x1 ++ x2) #[] (List.replicate m its.toArray) = (List.replicate m its).flatten.toArray := fun m => by
      have := foldl_rep its m []
      rw [List.nil_append] at this
      exact this
    rw [f0]
    cases its with
    | nil => simp
    | cons a r' => rw [if_neg (by simp)]
  refine wpAny_binaryOp_repeat_ref (T := "list") (U := "int") (by decide) ⟨_, e, rfl⟩ (fun s' => typeIs_int s' k t) noFill_list_mul F.fills_int_mul F.slot_int_rmul repeat_list F.slot_int_index.lookup
    (call_meets F.slot_int_rmul (typeIs_int s k t) F.entry_int_rmul (F.args_int_rmul_2 _ _) (int___rmul___int_list k t l its.toArray n)
      ⟨e, rfl, ⟨_, e, rfl⟩, call_meets F.slot_list_mul ⟨_, e, rfl⟩ F.entry_list_mul (F.args_list_mul_2 _ _) (AutoListH.list___mul___list_int_3 l its.toArray n k t hfit hcap hlong) ⟨e, ?_⟩⟩)
  rw [hnew]
  exact ⟨.ref _, _, I.lnew (t' := s.toks) (r.rep k.toNat) (by rw [PyProof.Rows.lm_len_rep_flat, Nat.mul_comm]; exact hz), rfl, q _ I.fresh⟩
theorem od_mul : OpD X cl E (binaryOp .Mult) mulD := OpR.imp (op_mulW.or op_repR) fun x y H Q ⟨d, e, M, W, r1, r2, hH, hp⟩ => by
  cases d with
  | int i =>
    cases e with
    | int j =>
      have hp : Post X.K cl E (Rep X.K) W ((if mulOk i j = true then Mo.ret (.int (i * j)) else Mo.stop : Mo D) M) Q := hp
      by_cases c : mulOk i j = true
      · rw [if_pos c] at hp
        exact .inl ⟨_, _, r1, r2, of_decide_eq_true (p := i.natAbs.log2 + j.natAbs.log2 < 1000000) c, hp W H _ (.refl W) rfl hH⟩
      · rw [if_neg c] at hp; exact hp.elim
    | _ => exact hp.elim
  | lst xs =>
    cases e with
    | int k =>
      have hp : Post X.K cl E (Rep X.K) W ((if (decide (-(2 ^ 63) ≤ k) && decide (k < 2 ^ 63) && fits (xs.length * k.toNat)) = true then Mo.ret (.lst (List.replicate k.toNat xs).flatten) else Mo.stop : Mo D) M) Q := hp
      by_cases c : (decide (-(2 ^ 63) ≤ k) && decide (k < 2 ^ 63) && fits (xs.length * k.toNat)) = true
      · rw [if_pos c] at hp
        have c1 := Bool.and_eq_true_iff.mp c
        have c2 := Bool.and_eq_true_iff.mp c1.1
        obtain ⟨a, us, z, s, q⟩ := lst_of hH r1 rfl
        refine .inr ⟨a, k, us, z, r2, s, of_decide_eq_true c2.1, of_decide_eq_true c2.2, by rw [q.length]; exact fits_le c1.2, fun p hn => ?_⟩
        obtain ⟨W4, l4, h4, r4⟩ := hH.mkLst (q.rep_flat k.toNat) hn
        exact hp W4 _ _ l4 r4 h4
      · rw [if_neg c] at hp; exact hp.elim
    | _ => exact hp.elim
  | _ => exact hp.elim
end
end DL

/-! DL: statements, targets, loops, comprehensions, calls of defs. -/
namespace DL
open PySem PySem.Spec PyProof.Rows L2

abbrev XS := Rho → Mo Fl
def sNext : XS := fun ρ => Mo.ret (.nx ρ)
def seqK (b : XS) : Fl → Mo Fl
  | .nx ρ => b ρ
  | .rt d => Mo.ret (.rt d)
  | .bk ρ => Mo.ret (.bk ρ)
  | .ct ρ => Mo.ret (.ct ρ)
def sSeq (a b : XS) : XS := fun ρ => Mo.bnd (a ρ) (seqK b)
def sIf (t : Rho → Mo Bool) (a b : XS) : XS := fun ρ => Mo.bnd (t ρ) fun c => if c = true then a ρ else b ρ
def sRet (m : XE) : XS := fun ρ => Mo.bnd (m ρ) fun d => Mo.ret (.rt d)
def sRetN : XS := fun _ => Mo.ret (.rt .non)
def sExpr (m : XE) : XS := fun ρ => Mo.bnd (m ρ) fun _ => Mo.ret (.nx ρ)
def sBrk : XS := fun ρ => Mo.ret (.bk ρ)
def sCnt : XS := fun ρ => Mo.ret (.ct ρ)
abbrev XG := D → Rho → Mo Rho
def gN (i : Nat) : XG := fun d ρ => Mo.ret (ρ.set i (some d))
def gA : List XG → List D → Rho → Mo Rho
  | [], [], ρ => Mo.ret ρ
  | g :: gs, d :: ds, ρ => Mo.bnd (g d ρ) fun ρ' => gA gs ds ρ'
  | _, _, _ => Mo.stop
def gT (gs : List XG) : XG := fun d ρ => match d with
  | .tup ds => if ds.length = gs.length then gA gs ds ρ else Mo.stop
  | _ => Mo.stop
def setD (o i v : D) : Mo Unit := fun M => match o, i with
  | .obj n, .int k => (match M[n]? with
    | some (.lst xs) => (match ixN xs.length k with
      | some j => some (.ok (), M.set n (.lst (xs.set j v)))
      | none => none)
    | _ => (dPut M (.obj n) (.int k) v).map fun M' => (.ok (), M'))
  | o, i => (dPut M o i v).map fun M' => (.ok (), M')
def gS (o i : XE) : XG := fun v ρ => Mo.bnd (o ρ) fun od => Mo.bnd (i ρ) fun id => Mo.bnd (setD od id v) fun _ => Mo.ret ρ
def sAsg (m : XE) (g : XG) : XS := fun ρ => Mo.bnd (m ρ) fun d => Mo.bnd (g d ρ) fun ρ' => Mo.ret (.nx ρ')
def sPar (i j : Nat) (a b : XE) : XS := fun ρ => Mo.bnd (aL [a, b] ρ) fun ds => match ds with
  | [x, y] => Mo.ret (.nx ((ρ.set i (some x)).set j (some y)))
  | _ => Mo.stop
/-- what is walked: a fixed list of things, or an object's list that must stand -/
inductive Src where
  | frz (xs : List D) | ob (n : Nat) (xs : List D) | zip (a b : Src)
def Src.xs : Src → List D
  | .frz xs => xs
  | .ob _ xs => xs
  | .zip a b => List.zipWith (fun x y => D.tup [x, y]) a.xs b.xs
def Src.ok (M : MS) : Src → Prop
  | .frz _ => True
  | .ob n xs => M[n]? = some (.lst xs)
  | .zip a b => a.ok M ∧ b.ok M
open Classical in
noncomputable def chk (s : Src) : Mo Unit := fun M => if s.ok M then some (.ok (), M) else none
noncomputable def loopF (g : XG) (b : XS) (s : Src) : List D → Rho → Mo Fl
  | [], ρ => Mo.ret (.nx ρ)
  | x :: xs, ρ => Mo.bnd (g x ρ) fun ρ1 => Mo.bnd (b ρ1) fun fl => match fl with
    | .nx ρ2 => Mo.bnd (chk s) fun _ => loopF g b s xs ρ2
    | .ct ρ2 => Mo.bnd (chk s) fun _ => loopF g b s xs ρ2
    | .bk ρ2 => Mo.ret (.nx ρ2)
    | .rt d => Mo.ret (.rt d)
noncomputable def sFor (it : Rho → Mo Src) (g : XG) (b : XS) : XS := fun ρ => Mo.bnd (it ρ) fun s => Mo.bnd (chk s) fun _ => loopF g b s s.xs ρ
def whN (t : Rho → Mo Bool) (b : XS) : Nat → Rho → Mo Fl
  | 0, _ => Mo.stop
  | n + 1, ρ => Mo.bnd (t ρ) fun c => if c = true then Mo.bnd (b ρ) fun fl => match fl with
      | .nx ρ2 => whN t b n ρ2
      | .ct ρ2 => whN t b n ρ2
      | .bk ρ2 => Mo.ret (.nx ρ2)
      | .rt d => Mo.ret (.rt d)
    else Mo.ret (.nx ρ)
open Classical in
noncomputable def sWh (t : Rho → Mo Bool) (b : XS) : XS := fun ρ M => if h : ∃ n, whN t b n ρ M ≠ none then whN t b h.choose ρ M else none
theorem whN_succ {t : Rho → Mo Bool} {b : XS} : ∀ {n : Nat} {ρ : Rho} {M : MS} {r : Except Ex Fl × MS}, whN t b n ρ M = some r → whN t b (n + 1) ρ M = some r
  | 0, _, _, _, h => nomatch h
  | n + 1, ρ, M, r, h => by
    unfold whN Mo.bnd at h ⊢
    cases e : t ρ M with
    | none => rw [e] at h; cases h
    | some q =>
      rw [e] at h
      obtain ⟨q, M1⟩ := q
      cases q with
      | error x => exact h
      | ok c =>
        cases c with
        | false => exact h
        | true =>
          simp only [if_true] at h ⊢
          cases e2 : b ρ M1 with
          | none => rw [e2] at h; cases h
          | some q2 =>
            rw [e2] at h
            obtain ⟨q2, M2⟩ := q2
            cases q2 with
            | error x => exact h
            | ok fl =>
              cases fl with
              | nx ρ2 => exact whN_succ (n := n) h
              | ct ρ2 => exact whN_succ (n := n) h
              | bk ρ2 => exact h
              | rt d => exact h
theorem whN_le {t : Rho → Mo Bool} {b : XS} {n : Nat} {ρ : Rho} {M : MS} {r : Except Ex Fl × MS} (h : whN t b n ρ M = some r) : ∀ k, whN t b (n + k) ρ M = some r
  | 0 => h
  | k + 1 => whN_succ (whN_le h k)
theorem sWh_of {t : Rho → Mo Bool} {b : XS} {n : Nat} {ρ : Rho} {M : MS} {r : Except Ex Fl × MS} (h : whN t b n ρ M = some r) : sWh t b ρ M = some r := by
  unfold sWh
  have hx : ∃ n, whN t b n ρ M ≠ none := ⟨n, by rw [h]; exact fun z => nomatch z⟩
  rw [dif_pos hx]
  have hc := hx.choose_spec
  cases e : whN t b hx.choose ρ M with
  | none => exact absurd e hc
  | some q =>
    have a := whN_le e n
    have c := whN_le h hx.choose
    rw [Nat.add_comm] at c
    rw [a] at c
    exact c
/-- one turn of a while -/
theorem sWh_step {t : Rho → Mo Bool} {b : XS} {ρ : Rho} {M : MS} {r : Except Ex Fl × MS} (h : Mo.bnd (t ρ) (fun c => if c = true then Mo.bnd (b ρ) fun fl => match fl with
      | .nx ρ2 => sWh t b ρ2
      | .ct ρ2 => sWh t b ρ2
      | .bk ρ2 => Mo.ret (.nx ρ2)
      | .rt d => Mo.ret (.rt d)
    else Mo.ret (.nx ρ)) M = some r) : sWh t b ρ M = some r := by
  have key : ∀ {ρ M r}, sWh t b ρ M = some r → ∃ n, whN t b n ρ M = some r := fun {ρ M r} h => by
    unfold sWh at h
    by_cases hx : ∃ n, whN t b n ρ M ≠ none
    · rw [dif_pos hx] at h; exact ⟨_, h⟩
    · rw [dif_neg hx] at h; cases h
  have : ∃ n, whN t b (n + 1) ρ M = some r := by
    unfold Mo.bnd at h
    unfold whN Mo.bnd
    cases e : t ρ M with
    | none => rw [e] at h; cases h
    | some q =>
      rw [e] at h
      obtain ⟨q, M1⟩ := q
      cases q with
      | error x => exact ⟨0, h⟩
      | ok c =>
        cases c with
        | false => exact ⟨0, h⟩
        | true =>
          simp only [if_true] at h ⊢
          cases e2 : b ρ M1 with
          | none => rw [e2] at h; cases h
          | some q2 =>
            rw [e2] at h
            obtain ⟨q2, M2⟩ := q2
            cases q2 with
            | error x => exact ⟨0, h⟩
            | ok fl =>
              cases fl with
              | nx ρ2 => exact key h
              | ct ρ2 => exact key h
              | bk ρ2 => exact ⟨0, h⟩
              | rt d => exact ⟨0, h⟩
  obtain ⟨n, e⟩ := this
  exact sWh_of e

/-! ### soundness: statements -/
section
variable (X : Cx) (cl : Cl) (E : XK)
abbrev PDS (st : Stmt) (m : XS) : Prop := PS X st (tS X.K cl E m)
abbrev PDSs (st : List Stmt) (m : XS) : Prop := PSs X st (tS X.K cl E m)
def tG (K : PySem.W.Frag) (g : XG) : TG := fun v σ H Q => ∃ d ρ M W, Rep K W d v ∧ RhoR K W σ ρ ∧ HRel K cl W M H ∧ Post K cl E (fun W (a : Rho) (b : L2.St) => RhoR K W b a) W (g d ρ M) Q
def tGs (K : PySem.W.Frag) (gs : List XG) : TGs := fun vs σ H Q => ∃ ds ρ M W, Reps K W ds vs ∧ RhoR K W σ ρ ∧ HRel K cl W M H ∧ Post K cl E (fun W (a : Rho) (b : L2.St) => RhoR K W b a) W (gA gs ds ρ M) Q
abbrev PDG (tg : Expr) (g : XG) : Prop := PG X tg (tG cl E X.K g)
abbrev PDGs (tg : List Expr) (g : List XG) : Prop := PGs X tg (tGs cl E X.K g)
end
section
variable {K : PySem.W.Frag} {cl : Cl} {E : XK}
theorem PostS.ret {W : Wd} {M : MS} {H : Hp} {f : Fl} {Dn : Ends} (h : PostS K cl E W (Mo.ret f M) Dn) (hH : HRel K cl W M H) : FlR K Dn W H f := h W H (.refl W) hH
/-- a block, and what follows -/
theorem PostS.bndS {W : Wd} {M : MS} {m : Mo Fl} {f : Fl → Mo Fl} {Dn Dn' : Ends} (h : PostS K cl E W (Mo.bnd m f M) Dn)
    (k : ∀ a M' W' H', W.le W' → HRel K cl W' M' H' → PostS K cl E W' (f a M') Dn → FlR K Dn' W' H' a) : PostS K cl E W (m M) Dn' := by
  unfold Mo.bnd at h
  cases e : m M with
  | none => rw [e] at h; exact h
  | some r =>
    rw [e] at h
    obtain ⟨r, M'⟩ := r
    cases r with
    | ok a => exact fun W' H' l hr => k a M' W' H' l hr (h.up l)
    | error x => exact h
theorem chk_ok {s : Src} {M : MS} {f : Unit → Mo Fl} {W : Wd} {Dn : Ends} (h : PostS K cl E W (Mo.bnd (chk s) f M) Dn) : s.ok M ∧ PostS K cl E W (f () M) Dn := by
  unfold Mo.bnd chk at h
  by_cases c : s.ok M
  · simp only [if_pos c] at h; exact ⟨c, h⟩
  · simp only [if_neg c] at h; exact h.elim
end
section
variable {X : Cx} {cl : Cl} {E : XK} {pos : Pos} {a b c e tg : Expr} {es : List Expr} {ma mb : XE} {st : Stmt} {sts sts2 : List Stmt} {m m2 : XS}
theorem pds_nil : PDSs X cl E [] sNext := PSs.imp pss_nil fun Dn σ H ⟨ρ, M, W, hρ, hH, hp⟩ => hp.ret hH σ hρ
theorem tS_seq : ∀ Dn σ H, tS X.K cl E (sSeq m m2) Dn σ H → tSeq (tS X.K cl E m) (tS X.K cl E m2) Dn σ H := fun Dn σ H ⟨ρ, M, W, hρ, hH, hp⟩ =>
  ⟨ρ, M, W, hρ, hH, hp.bndS fun fl M1 W1 H1 l1 hH1 hp1 => by
    cases fl with
    | nx ρ1 => exact fun σ1 h1 => ⟨ρ1, M1, W1, h1, hH1, hp1⟩
    | rt d => exact hp1.ret hH1
    | bk ρ1 => exact hp1.ret hH1
    | ct ρ1 => exact hp1.ret hH1⟩
theorem pds_cons (h1 : PDS X cl E st m) (h2 : PDSs X cl E sts m2) : PDSs X cl E (st :: sts) (sSeq m m2) := PSs.imp (pss_cons h1 h2) tS_seq
theorem pds_one (h1 : PDS X cl E st m) : PDSs X cl E [st] m := pss_one h1
theorem pds_pass : PDS X cl E (.Pass pos) sNext := PS.imp ps_pass fun Dn σ H ⟨ρ, M, W, hρ, hH, hp⟩ => hp.ret hH σ hρ
theorem pds_doc {x j pos pos'} : PDS X cl E (.Expr (.Constant (.str x) j pos) pos') sNext := PS.imp ps_doc fun Dn σ H ⟨ρ, M, W, hρ, hH, hp⟩ => hp.ret hH σ hρ
theorem pds_break : PDS X cl E (.Break pos) sBrk := PS.imp ps_break fun Dn σ H ⟨ρ, M, W, hρ, hH, hp⟩ => hp.ret hH σ hρ
theorem pds_continue : PDS X cl E (.Continue pos) sCnt := PS.imp ps_continue fun Dn σ H ⟨ρ, M, W, hρ, hH, hp⟩ => hp.ret hH σ hρ
theorem pds_if {t : Rho → Mo Bool} (hc : PDT X cl E c t) (ha : PDSs X cl E sts m) (hb : PDSs X cl E sts2 m2) : PDS X cl E (.If c sts sts2 pos) (sIf t m m2) :=
  PS.imp (ps_if hc ha hb) fun Dn σ H ⟨ρ, M, W, hρ, hH, hp⟩ => ⟨ρ, M, W, hρ, hH, hp.seq fun c M1 W1 H1 v l1 r1 hH1 hp1 => by
    subst r1
    cases c with
    | true => exact iteT ⟨ρ, M1, W1, hρ.up l1, hH1, hp1⟩
    | false => exact iteF ⟨ρ, M1, W1, hρ.up l1, hH1, hp1⟩⟩
theorem pds_ret (h : PD X cl E e ma) : PDS X cl E (.Return (some e) pos) (sRet ma) := PS.imp (ps_ret h) fun Dn σ H ⟨ρ, M, W, hρ, hH, hp⟩ => ⟨ρ, M, W, hρ, hH, hp.seq fun d M1 W1 H1 v l1 r1 hH1 hp1 => hp1.ret hH1 v r1⟩
theorem pds_retN : PDS X cl E (.Return none pos) sRetN := PS.imp ps_retN fun Dn σ H ⟨ρ, M, W, hρ, hH, hp⟩ => hp.ret hH .non rfl
theorem pds_expr (h : PD X cl E e ma) (hs : swapsWith e none pos.line X.env = pure false := by rfl) : PDS X cl E (.Expr e pos) (sExpr ma) :=
  PS.imp (ps_expr h hs) fun Dn σ H ⟨ρ, M, W, hρ, hH, hp⟩ => ⟨ρ, M, W, hρ, hH, hp.seq fun d M1 W1 H1 v l1 r1 hH1 hp1 => hp1.ret hH1 σ (hρ.up l1)⟩
/-! ### targets -/
theorem pdg_name {x : Str} (i : Nat) (hN : X.N.Nodup) (hi : X.N[i]? = some x := by rfl) (hx : Loc X.env.scope x := by first | exact Or.inl rfl | exact Or.inr rfl) (hf : X.fn x = true ∨ X.env.scope.names.lookup x = some .local := by first | exact .inl rfl | exact .inr rfl) : PDG X cl E (.Name x pos) (gN i) := by
  refine ⟨fun pins s σ H v u Q I r ⟨d, ρ, M, W, rd, hρ, hH, hp⟩ => ?_⟩
  exact (pg_name (pos := pos) hN hi hx hf).run pins s σ H v u Q I r (hp W H _ (.refl W) (hρ.set rd i) hH)
theorem pdgs_nil : PDGs X cl E [] [] := by
  refine ⟨fun pins s σ H vs us Q I r ⟨ds, ρ, M, W, rd, hρ, hH, hp⟩ => ?_⟩
  cases ds with
  | nil => exact pgs_nil.run pins s σ H vs us Q I r ⟨rd, hp W H _ (.refl W) hρ hH⟩
  | cons d ds => exact hp.elim
theorem pdgs_cons {g : XG} {gs : List XG} (h1 : PDG X cl E e g) (h2 : PDGs X cl E es gs) (hs : (assignEach (e :: es) X.env).map (·.2) = assign e X.env :: (assignEach es X.env).map (·.2) := by rfl) : PDGs X cl E (e :: es) (g :: gs) := by
  refine ⟨fun pins s σ H vs us Q I r ⟨ds, ρ, M, W, rd, hρ, hH, hp⟩ => ?_⟩
  cases ds with
  | nil => exact hp.elim
  | cons d ds =>
    obtain ⟨v, r', ev, rv, rr⟩ := rd
    refine (pgs_cons h1 h2 hs).run pins s σ H vs us Q I r ⟨v, r', ev, d, ρ, M, W, rv, hρ, hH, ?_⟩
    exact Post.seq hp fun ρ1 M1 W1 H1 σ1 l1 r1 hH1 hp1 => ⟨ds, ρ1, M1, W1, rr.up l1, r1, hH1, hp1⟩
theorem assign_len {es : List Expr} {env : Env} (f : es.length = (assignEach es env).length) : (assignEach es env).length = es.length := f.symm
theorem pdg_tup {k : Nat} {gs : List XG} {n : Nat} (hc : X.calm = true) (h : PDGs X cl E es gs) (hn : (assignEach es X.env).length = n := by rfl) (hl : gs.length = n := by rfl) (hst : (assignEach es X.env).findIdx? (·.1) = none := by rfl) : PDG X cl E (.Tuple es k pos) (gT gs) := by
  refine ⟨fun pins s σ H v u Q I r ⟨d, ρ, M, W, rd, hρ, hH, hp⟩ => ?_⟩
  cases d with
  | tup ds =>
    have hp : Post X.K cl E (fun W (a : Rho) (b : L2.St) => RhoR X.K W b a) W ((if ds.length = gs.length then gA gs ds ρ else Mo.stop) M) Q := hp
    by_cases c : ds.length = gs.length
    · rw [if_pos c] at hp
      obtain ⟨a, vs, z, s1, q⟩ := sqT_of hH rd
      exact (pg_tup (k := k) (pos := pos) hc h hn hst).run pins s σ H v u Q I r ⟨a, vs, z, s1, by rw [q.length, c, hl], ds, ρ, M, W, q, hρ, hH, hp⟩
    · rw [if_neg c] at hp; exact hp.elim
  | _ => exact hp.elim
theorem setD_ok {M M1 : MS} {o i v : D} {r : Except Ex Unit} (h : setD o i v M = some (r, M1)) : r = .ok () ∧ ((∃ n k xs j, o = .obj n ∧ i = .int k ∧ M[n]? = some (.lst xs) ∧ ixN xs.length k = some j ∧ M1 = M.set n (.lst (xs.set j v))) ∨ dPut M o i v = some M1) := by
  have dct : (dPut M o i v).map (fun M' => ((.ok () : Except Ex Unit), M')) = some (r, M1) → r = .ok () ∧ ((∃ n k xs j, o = .obj n ∧ i = .int k ∧ M[n]? = some (.lst xs) ∧ ixN xs.length k = some j ∧ M1 = M.set n (.lst (xs.set j v))) ∨ dPut M o i v = some M1) := fun e => by
    obtain ⟨M', e1, e2⟩ := Option.map_eq_some_iff.mp e
    cases e2
    exact ⟨rfl, .inr e1⟩
  unfold setD at h
  cases o with
  | obj n =>
    cases i with
    | int k =>
      cases e : M[n]? with
      | none => simp only [e] at h; exact dct h
      | some mo =>
        cases mo with
        | lst xs =>
          simp only [e] at h
          cases e2 : ixN xs.length k with
          | none => simp [e2] at h
          | some j =>
            simp only [e2, Option.some.injEq, Prod.mk.injEq] at h
            exact ⟨h.1.symm, .inl ⟨n, k, xs, j, rfl, rfl, e, e2, h.2.symm⟩⟩
        | _ => simp only [e] at h; exact dct h
    | _ => exact dct h
  | _ => exact dct h
theorem HRel.setL {W : Wd} {M : MS} {H : Hp} {n : Nat} {xs : List D} {v : D} {u : V} {j : Nat} {a : Addr} (hH : HRel X.K cl W M H) (e : M[n]? = some (.lst xs)) (ea : W.ι[n]? = some a) (r : Rep X.K W v u) :
    ∃ vs, H a = some (.lst vs) ∧ Reps X.K W xs vs ∧ HRel X.K cl W (M.set n (.lst (xs.set j v))) (upd H a (.lst (vs.set j u))) := by
  obtain ⟨b, eb, _, _, vs, ho, q⟩ := hH.obj n _ e
  rw [ea] at eb
  have eb := Option.some.inj eb
  subst eb
  exact ⟨vs, ho, q, hH.set e (fun z => nomatch z) (fun z => nomatch z) ea ⟨_, rfl, q.set j r⟩⟩
theorem PSet.or {t t' : TSet} (h : PSet X t) (h' : PSet X t') : PSet X (fun o i v H Q => t o i v H Q ∨ t' o i v H Q) := fun pins s σ H o i v ov iv u Q I ro ri rv q => q.elim (h pins s σ H o i v ov iv u Q I ro ri rv) (h' pins s σ H o i v ov iv u Q I ro ri rv)
theorem pdg_sub {o i : Expr} {mo mi : XE} (hu : X.A.units + 100 < cLine) (hw : cl.w = X.w) (ho : PD X cl E o mo) (hi : PD X cl E i mi) (ha : ∀ v, assign (.Subscript o i pos) X.env v = (do
      let ov ← holding [v] (eval o X.env)
      let iv ← holding [v, ov] (eval i X.env)
      standAt pos
      holding [v, ov, iv] (setItem ov iv v)
      release [v, ov, iv] []) := by intro _; rfl) : PDG X cl E (.Subscript o i pos) (gS mo mi) := by
  refine ⟨fun pins s σ H v u Q I r ⟨d, ρ, M, W, rd, hρ, hH, hp⟩ => ?_⟩
  refine (pg_sub ho hi (PSet.or set_list (set_dct (cl := cl) hu hw)) ha).run pins s σ H v u Q I r ⟨ρ, M, W, hρ, hH, Post.seq hp fun od M1 W1 H1 ov l1 r1 hH1 hp1 => ⟨ρ, M1, W1, hρ.up l1, hH1, Post.seq hp1 fun id M2 W2 H2 iv l2 r2 hH2 hp2 => ?_⟩⟩
  unfold Mo.bnd at hp2
  cases e : setD od id d M2 with
  | none => rw [e] at hp2; exact hp2.elim
  | some q =>
    obtain ⟨q, M3⟩ := q
    obtain ⟨rfl, e1 | e1⟩ := setD_ok e
    · rw [e] at hp2
      obtain ⟨n, k, xs, j, rfl, rfl, e1, e2, rfl⟩ := e1
      obtain ⟨a, z, ea⟩ := r1.up l2
      obtain ⟨vs, h1, h2, h3⟩ := hH2.setL (j := j) e1 ea (rd.up (l1.trans l2))
      exact .inl ⟨a, vs, k, j, z, r2, h1, by rw [h2.length]; exact e2, hp2 W2 _ σ (.refl W2) (hρ.up (l1.trans l2)) h3⟩
    · rw [e] at hp2
      exact .inr ⟨od, id, d, M2, W2, M3, r1.up l2, r2, rd.up (l1.trans l2), hH2, e1, fun H' hH' => hp2 W2 H' σ (.refl W2) (hρ.up (l1.trans l2)) hH'⟩
theorem pds_asg {g : XG} (he : PD X cl E e ma) (hg : PDG X cl E tg g) (hs : swapsWithSole [tg] e pos.line X.env = pure false := by rfl) (hw : swappedStores [tg] e X.env = pure none := by rfl) (h1 : (assignEach [tg] X.env).map (·.2) = [assign tg X.env] := by rfl) : PDS X cl E (.Assign [tg] e pos) (sAsg ma g) :=
  PS.imp (ps_asg he hg hs hw h1) fun Dn σ H ⟨ρ, M, W, hρ, hH, hp⟩ => ⟨ρ, M, W, hρ, hH, hp.seq fun d M1 W1 H1 v l1 r1 hH1 hp1 => ⟨d, ρ, M1, W1, r1, hρ.up l1, hH1, hp1.seq fun ρ2 M2 W2 H2 σ2 l2 r2 hH2 hp2 => hp2.ret hH2 σ2 r2⟩⟩
theorem pds_set {x : Str} {pos' : Pos} (i : Nat) (hN : X.N.Nodup) (he : PD X cl E e ma) (hi : X.N[i]? = some x := by rfl) (hx : Loc X.env.scope x := by first | exact Or.inl rfl | exact Or.inr rfl) (hs : swapsWith e (some (.Name x pos')) pos.line X.env = pure false := by rfl)
    (hf : X.fn x = true ∨ X.env.scope.names.lookup x = some .local := by first | exact .inl rfl | exact .inr rfl) : PDS X cl E (.Assign [.Name x pos'] e pos) (sAsg ma (gN i)) :=
  PS.imp (ps_set hN hi hx he hs hf) fun Dn σ H ⟨ρ, M, W, hρ, hH, hp⟩ => ⟨ρ, M, W, hρ, hH, hp.seq fun d M1 W1 H1 v l1 r1 hH1 hp1 => hp1.ret hH1 _ ((hρ.up l1).set r1 i)⟩
theorem pds_par {x y : Str} {px py pt : Pos} {kt k2 pt2} (i j : Nat) (hc : X.calm = true) (hN : X.N.Nodup) (ha : PD X cl E a ma) (hb : PD X cl E b mb) (hi : X.N[i]? = some x := by rfl) (hj : X.N[j]? = some y := by rfl) (hij : i ≠ j := by decide)
    (hx : X.env.scope.names.lookup x = some .local := by rfl) (hy : X.env.scope.names.lookup y = some .local := by rfl)
    (hw : swappedStores [.Tuple [.Name x px, .Name y py] kt pt] (.Tuple [a, b] k2 pt2) X.env = pure (some [x, y]) := by rfl)
    (hs : swapsWithSole [.Tuple [.Name x px, .Name y py] kt pt] (.Tuple [a, b] k2 pt2) pos.line X.env = pure false := by rfl)
    (hs1 : starEach [a, b] X.env = (false, eval a X.env) :: starEach [b] X.env := by rfl) (hs2 : starEach [b] X.env = (false, eval b X.env) :: starEach [] X.env := by rfl) :
    PDS X cl E (.Assign [.Tuple [.Name x px, .Name y py] kt pt] (.Tuple [a, b] k2 pt2) pos) (sPar i j ma mb) :=
  PS.imp (ps_par hc hN hi hj hij hx hy (pda_cons ha (pda_cons hb pda_nil hs2) hs1) hw hs) fun Dn σ H ⟨ρ, M, W, hρ, hH, hp⟩ => ⟨ρ, M, W, hρ, hH, hp.seq fun ds M1 W1 H1 vs l1 r1 hH1 hp1 => by
    match ds, r1, hp1 with
    | [d, e], r1, hp1 =>
      obtain ⟨v, us, z, rv, w, ws, z2, rw', z3⟩ := r1
      rw [z, z2, show ws = [] from z3]
      exact ⟨v, w, rfl, hp1.ret hH1 _ (((hρ.up l1).set rv i).set rw' j)⟩
    | [], _, hp1 => exact hp1.elim
    | [_], _, hp1 => exact hp1.elim
    | _ :: _ :: _ :: _, _, hp1 => exact hp1.elim⟩
/-! ### what is walked -/
variable (X cl) in
structure SrcOk (s : Src) (J : It) (W0 : Wd) : Prop where
  stop : ∀ W M H, W0.vle W → HRel X.K cl W M H → s.ok M → J.stop s.xs.length H
  go : ∀ i x W M H, W0.vle W → HRel X.K cl W M H → s.ok M → s.xs[i]? = some x → J.go i H ∧ ∀ v H', J.yld i H v H' → ∃ W', W.le W' ∧ Rep X.K W' x v ∧ HRel X.K cl W' M H'
variable (X cl E) in
def tI (m : Rho → Mo Src) : TI := fun σ H R => ∃ ρ M W, RhoR X.K W σ ρ ∧ HRel X.K cl W M H ∧ Post X.K cl E (fun W s J => SrcOk X cl s J W) W (m ρ M) R
variable (X cl E) in
abbrev PDI (tg it : Expr) (m : Rho → Mo Src) : Prop := PI X tg it (tI X cl E m)
theorem PI.imp {tg it : Expr} {w w' : TI} (h : PI X tg it w) (k : ∀ σ H R, w' σ H R → w σ H R) : PI X tg it w' := ⟨fun pins s σ H R I q => h.run pins s σ H R I (k _ _ _ q)⟩
theorem pds_for {it : Expr} {g : XG} {mi : Rho → Mo Src} (hp : PassesOwn (model X.prog X.w) X.A X.env X.xe) (hc : X.calm = true) (hi : PDI X cl E tg it mi) (hg : PDG X cl E tg g) (hb : PDSs X cl E sts m)
    (hs : ∀ x, foldedSetIterable it X.env x = pure x := by intro _; rfl) : PDS X cl E (.For tg it sts [] pos) (sFor mi g m) :=
  PS.imp (ps_for hp hc hi hg hb hs) fun Dn σ H ⟨ρ, M, W, hρ, hH, hp⟩ => ⟨ρ, M, W, hρ, hH, hp.seq fun s M1 W1 H1 J l1 so hH1 hp1 => by
    obtain ⟨ok1, hp2⟩ := chk_ok hp1
    refine ⟨fun i n σ H => n = s.xs.length - i ∧ i ≤ s.xs.length ∧ ∃ ρ M W, W1.le W ∧ RhoR X.K W σ ρ ∧ HRel X.K cl W M H ∧ s.ok M ∧ PostS X.K cl E W (loopF g m s (s.xs.drop i) ρ M) Dn, ⟨_, rfl, Nat.zero_le _, ρ, M1, W1, .refl W1, hρ.up l1, hH1, ok1, hp2⟩, ?_⟩
    rintro i n σ H ⟨rfl, hi, ρ, M, W, l, hρ, hH, ok, hp⟩
    by_cases hlt : i < s.xs.length
    · obtain ⟨go, yl⟩ := so.go i s.xs[i] W M H l.v hH ok (by simp [hlt])
      refine .inr ⟨go, fun σ H => ∃ ρ M W, W1.le W ∧ RhoR X.K W σ ρ ∧ HRel X.K cl W M H ∧ s.ok M ∧ PostS X.K cl E W (loopF g m s (s.xs.drop (i + 1)) ρ M) Dn, fun σ' H' p' => ⟨_, ?_, rfl, hlt, p'⟩, fun v H' y => ?_⟩
      · omega
      · obtain ⟨W', l', rx, hH'⟩ := yl v H' y
        rw [List.drop_eq_getElem_cons hlt] at hp
        refine ⟨s.xs[i], ρ, M, W', rx, hρ.up l', hH', (hp.up l').seq fun ρ2 M2 W2 H2 σ2 l2 r2 hH2 hp2 => ⟨ρ2, M2, W2, r2, hH2, hp2.bndS fun fl M3 W3 H3 l3 hH3 hp3 => ?_⟩⟩
        have le3 := l.trans (l'.trans (l2.trans l3))
        cases fl with
        | nx ρ3 => exact fun σ3 h3 => let ⟨ok3, q3⟩ := chk_ok hp3; ⟨ρ3, M3, W3, le3, h3, hH3, ok3, q3⟩
        | ct ρ3 => exact fun σ3 h3 => let ⟨ok3, q3⟩ := chk_ok hp3; ⟨ρ3, M3, W3, le3, h3, hH3, ok3, q3⟩
        | bk ρ3 => exact fun σ3 h3 => hp3.ret hH3 σ3 h3
        | rt d => exact hp3.ret hH3
    · have e : i = s.xs.length := by omega
      subst e
      rw [List.drop_length] at hp
      exact .inl ⟨so.stop W M H l.v hH ok, hp.ret hH σ hρ⟩⟩
theorem pds_while {t : Rho → Mo Bool} (hp : PassesOwn (model X.prog X.w) X.A X.env X.xe) (hc : PDT X cl E c t) (hb : PDSs X cl E sts m) : PDS X cl E (.While c sts [] pos) (sWh t m) :=
  PS.imp (ps_while hp hc hb) fun Dn σ H ⟨ρ, M, W, hρ, hH, hp⟩ => by
    have hx : ∃ n, PostS X.K cl E W (whN t m n ρ M) Dn := by
      unfold sWh at hp
      by_cases h : ∃ n, whN t m n ρ M ≠ none
      · rw [dif_pos h] at hp; exact ⟨_, hp⟩
      · rw [dif_neg h] at hp; exact hp.elim
    obtain ⟨n, hn⟩ := hx
    refine ⟨fun n σ H => ∃ ρ M W, RhoR X.K W σ ρ ∧ HRel X.K cl W M H ∧ PostS X.K cl E W (whN t m n ρ M) Dn, ⟨n, ρ, M, W, hρ, hH, hn⟩, ?_⟩
    rintro n σ H ⟨ρ, M, W, hρ, hH, hp⟩
    cases n with
    | zero => exact hp.elim
    | succ n =>
      refine ⟨ρ, M, W, hρ, hH, hp.seq fun c M1 W1 H1 v l1 r1 hH1 hp1 => ?_⟩
      subst r1
      cases c with
      | false => exact iteF (hp1.ret hH1 σ (hρ.up l1))
      | true =>
        refine iteT ⟨fun σ H => ∃ ρ M W, RhoR X.K W σ ρ ∧ HRel X.K cl W M H ∧ PostS X.K cl E W (whN t m n ρ M) Dn, fun σ' H' p => ⟨n, Nat.lt_succ_self n, p⟩, ρ, M1, W1, hρ.up l1, hH1, PostS.bndS hp1 fun fl M2 W2 H2 l2 hH2 hp2 => ?_⟩
        cases fl with
        | nx ρ2 => exact fun σ2 h2 => ⟨ρ2, M2, W2, h2, hH2, hp2⟩
        | ct ρ2 => exact fun σ2 h2 => ⟨ρ2, M2, W2, h2, hH2, hp2⟩
        | bk ρ2 => exact fun σ2 h2 => hp2.ret hH2 σ2 h2
        | rt d => exact hp2.ret hH2
end
end DL

/-! DL: what is walked, comprehensions, methods of lists, defs and their calls. -/
namespace DL
open PySem PySem.Spec PyProof.Rows L2

/-! ### sources -/
def srcD (d : D) : Mo Src := match d with
  | .tup xs => Mo.ret (.frz xs)
  | .lst xs => Mo.ret (.frz xs)
  | .obj n => fun M => match M[n]? with
    | some (.lst xs) => some (.ok (.ob n xs), M)
    | _ => none
  | .str z => Mo.ret (.frz (z.cps.toList.map fun c => .str ⟨#[c]⟩))
  | .scr ns => Mo.ret (.frz (ns.map D.int))
  | _ => Mo.stop
def iS (m : XE) : Rho → Mo Src := fun ρ => Mo.bnd (m ρ) srcD
def rngL (lo hi : Int) : List D := (List.range (hi - lo).toNat).map fun (i : Nat) => .int (lo + (i : Int))
def small62 (i : Int) : Bool := decide (-(2 ^ 62) ≤ i) && decide (i < 2 ^ 62)
def rngD : List D → Mo Src
  | [.int j] => if small62 j = true then Mo.ret (.frz (rngL 0 j)) else Mo.stop
  | [.int i, .int j] => if (small62 i && small62 j) = true then Mo.ret (.frz (rngL i j)) else Mo.stop
  | _ => Mo.stop
def iR (ms : List XE) : Rho → Mo Src := fun ρ => Mo.bnd (aL ms ρ) rngD
section
variable {X : Cx} {cl : Cl} {E : XK} {pos : Pos} {a b c e tg : Expr} {es : List Expr} {ma mb : XE}
theorem srcok_list {W : Wd} {a : Addr} {vs : List V} {ds : List D} (s : Rd W.G a (.lst vs)) (q : Reps X.K W ds vs) : SrcOk X cl (.frz ds) (Itl X.K a) W where
  stop := fun W' M' H' l hH _ => ⟨vs, .inl (rd_mono hH.gle (rd_mono l.g s)), by rw [q.length]; exact Nat.le_refl _⟩
  go := fun i x W' M' H' l hH _ hx => by
    obtain ⟨v, hv, rv⟩ := q.get hx
    have s' : SqL X.K H' a vs := .inl (rd_mono hH.gle (rd_mono l.g s))
    refine ⟨⟨vs, v, s', hv⟩, fun u H2 y => ?_⟩
    obtain ⟨e, y⟩ := y
    subst e
    have := y vs s'
    rw [hv] at this
    cases this
    exact ⟨W', .refl W', rv.upv l, hH⟩
theorem srcok_scr {W : Wd} {a : Addr} {ns : List Int} (s : SqL X.K W.G a (ns.map V.int)) : SrcOk X cl (.frz (ns.map D.int)) (Itl X.K a) W where
  stop := fun W' M' H' l hH _ => ⟨_, sqL_mono hH.gle (sqL_mono l.g s), by
    show (ns.map V.int).length ≤ (ns.map D.int).length
    simp⟩
  go := fun i x W' M' H' l hH _ hx => by
    obtain ⟨v, hv, rv⟩ := (Reps.ofInts (K := X.K) (W := W) ns).get hx
    have s' : SqL X.K H' a (ns.map V.int) := sqL_mono hH.gle (sqL_mono l.g s)
    refine ⟨⟨_, v, s', hv⟩, fun u H2 y => ?_⟩
    obtain ⟨e, y⟩ := y
    subst e
    have := y _ s'
    rw [hv] at this
    cases this
    exact ⟨W', .refl W', rv.upv l, hH⟩
theorem srcok_tup {W : Wd} {a : Addr} {vs : List V} {ds : List D} (s : SqT X.K W.G a vs) (q : Reps X.K W ds vs) : SrcOk X cl (.frz ds) (Itt X.K a) W where
  stop := fun W' M' H' l hH _ => ⟨vs, sqT_mono hH.gle (sqT_mono l.g s), by rw [q.length]; exact Nat.le_refl _⟩
  go := fun i x W' M' H' l hH _ hx => by
    obtain ⟨v, hv, rv⟩ := q.get hx
    have s' : SqT X.K H' a vs := sqT_mono hH.gle (sqT_mono l.g s)
    refine ⟨⟨vs, v, s', hv⟩, fun u H2 y => ?_⟩
    obtain ⟨e, y⟩ := y
    subst e
    have := y vs s'
    rw [hv] at this
    cases this
    exact ⟨W', .refl W', rv.upv l, hH⟩
theorem srcok_ob {W : Wd} {a : Addr} {n : Nat} {ds : List D} (ea : W.ι[n]? = some a) : SrcOk X cl (.ob n ds) (Itl X.K a) W := by
  have look : ∀ {W' : Wd} {M' : MS} {H' : Hp}, W.vle W' → HRel X.K cl W' M' H' → (Src.ob n ds).ok M' → ∃ vs, SqL X.K H' a vs ∧ Reps X.K W' ds vs := fun {W' M' H'} l hH ok => by
    obtain ⟨b, eb, _, _, vs, ho, q⟩ := hH.obj n _ ok
    rw [l.i _ _ ea] at eb
    have eb := Option.some.inj eb
    subst eb
    exact ⟨vs, .inl (Rd.of ho), q⟩
  refine ⟨fun W' M' H' l hH ok => ?_, fun i x W' M' H' l hH ok hx => ?_⟩
  · obtain ⟨vs, s, q⟩ := look l hH ok
    exact ⟨vs, s, by rw [q.length]; exact Nat.le_refl _⟩
  · obtain ⟨vs, s, q⟩ := look l hH ok
    obtain ⟨v, hv, rv⟩ := q.get hx
    refine ⟨⟨vs, v, s, hv⟩, fun u H2 y => ?_⟩
    obtain ⟨e, y⟩ := y
    subst e
    have := y vs s
    rw [hv] at this
    cases this
    exact ⟨W', .refl W', rv, hH⟩
theorem srcok_str {W : Wd} {z : Str} : SrcOk X cl (.frz (z.cps.toList.map fun c => .str ⟨#[c]⟩)) (Its z) W where
  stop := fun W' M' H' l hH _ => by
    show z.cps.size ≤ (z.cps.toList.map fun c => D.str ⟨#[c]⟩).length
    simp
  go := fun i x W' M' H' l hH _ hx => by
    have hx : (z.cps.toList.map fun c => D.str ⟨#[c]⟩)[i]? = some x := hx
    rw [List.getElem?_map] at hx
    obtain ⟨ch, hc, rfl⟩ := Option.map_eq_some_iff.mp hx
    have hc' : z.cps[i]? = some ch := by simpa using hc
    refine ⟨(Array.getElem?_eq_some_iff.mp hc').1, fun u H2 y => ?_⟩
    obtain ⟨e, ch2, e2, e3⟩ := y
    subst e
    rw [hc'] at e2
    cases e2
    exact ⟨W', .refl W', e3, hH⟩
theorem srcok_rng {W : Wd} {lo : Int} {n : Nat} : SrcOk X cl (.frz ((List.range n).map fun (i : Nat) => .int (lo + (i : Int)))) (Itr lo n) W where
  stop := fun W' M' H' l hH _ => by
    show n ≤ ((List.range n).map fun (i : Nat) => D.int (lo + (i : Int))).length
    simp
  go := fun i x W' M' H' l hH _ hx => by
    have hx : ((List.range n).map fun (i : Nat) => D.int (lo + (i : Int)))[i]? = some x := hx
    rw [List.getElem?_map] at hx
    obtain ⟨k, hk, rfl⟩ := Option.map_eq_some_iff.mp hx
    have hk2 := List.getElem?_eq_some_iff.mp hk
    have hlt : i < n := by simpa using hk2.1
    have hki : k = i := by
      have := hk2.2
      rw [List.getElem_range] at this
      exact this.symm
    subst hki
    refine ⟨hlt, fun u H2 y => ?_⟩
    obtain ⟨e, y⟩ := y
    subst e
    exact ⟨W', .refl W', y, hH⟩
/-- a list, a tuple or a text, walked -/
theorem pi_seq {te : TE} (hl : PE X e te) : PI X tg e (fun σ H R => te σ H fun x H1 => (∃ a, x = .ref a ∧ (∃ xs, SqL X.K H1 a xs) ∧ R (Itl X.K a) H1) ∨ (∃ a, x = .ref a ∧ (∃ xs, SqT X.K H1 a xs) ∧ R (Itt X.K a) H1) ∨ ∃ z, x = .str z ∧ R (Its z) H1) := by
  refine ⟨fun pins s σ H R I h => ?_⟩
  refine thn (hl.run pins s σ H _ I h) fun v s1 ⟨x, H1, I1, r1, q1⟩ => ?_
  rcases q1 with ⟨a, e, ⟨xs, hq⟩, q⟩ | ⟨a, e, ⟨xs, hq⟩, q⟩ | ⟨z, e, q⟩
  · subst e
    cases r1
    obtain ⟨its, rv, p, hz⟩ := I1.list hq
    refine wpAny_pyIter_list p.isList ?_
    refine ⟨s1.heap.objs.size, [s1.heap.objs.size], _, _, H1, rfl, I1.kept (t' := s1.toks) fun b o e => Heap.get?_push_of_some _ e, turn_list a _, ⟨_, Heap.get?_push_size _ rfl, rfl, rfl⟩, fun b hb => ?_, q⟩
    have e : b = s1.heap.objs.size := by simpa using hb
    subst e
    exact I1.fpOk (Nat.le_refl _) (I1.hok.fresh (Nat.le_refl _))
  · subst e
    cases r1
    obtain ⟨its, rv, p, hz⟩ := I1.tuple hq
    refine wpAny_pyIter_tuple (show s1.heap.IsTuple a its.toArray from p) ?_
    refine ⟨s1.heap.objs.size, [s1.heap.objs.size], _, _, H1, rfl, I1.kept (t' := s1.toks) fun b o e => Heap.get?_push_of_some _ e, turn_tuple a _, ⟨_, Heap.get?_push_size _ rfl, rfl, rfl⟩, fun b hb => ?_, q⟩
    have e : b = s1.heap.objs.size := by simpa using hb
    subst e
    exact I1.fpOk (Nat.le_refl _) (I1.hok.fresh (Nat.le_refl _))
  · subst e
    obtain ⟨t, rfl⟩ := r1
    cases ha : z.cps.all (· < 128)
    · exact wpAny_pyIter_wide ha (pi_one (tk := s1.toks) I1 _ (turn_str _ z t "str_iterator" (.inr rfl)) ⟨_, Heap.get?_push_size _ rfl, rfl, rfl⟩ q)
    · exact wpAny_pyIter_ascii ha (pi_one (tk := s1.toks) I1 _ (turn_str _ z t "str_ascii_iterator" (.inl rfl)) ⟨_, Heap.get?_push_size _ rfl, rfl, rfl⟩ q)
theorem pdi_seq (he : PD X cl E e ma) : PDI X cl E tg e (iS ma) := PI.imp (pi_seq he) fun σ H R ⟨ρ, M, W, hρ, hH, hp⟩ => ⟨ρ, M, W, hρ, hH, hp.seq fun d M1 W1 H1 v l1 r1 hH1 hp1 => by
  cases d with
  | tup xs =>
    obtain ⟨a, vs, z, s, q⟩ := r1
    exact .inr (.inl ⟨a, z, ⟨vs, sqT_mono hH1.gle s.sq⟩, hp1 W1 H1 _ (.refl W1) (srcok_tup s.sq q) hH1⟩)
  | lst xs =>
    obtain ⟨a, vs, z, s, q⟩ := r1
    exact .inl ⟨a, z, ⟨vs, .inl (rd_mono hH1.gle s)⟩, hp1 W1 H1 _ (.refl W1) (srcok_list s q) hH1⟩
  | scr ns =>
    obtain ⟨a, z, s⟩ := r1
    exact .inl ⟨a, z, ⟨_, sqL_mono hH1.gle s⟩, hp1 W1 H1 _ (.refl W1) (srcok_scr s) hH1⟩
  | str z => exact .inr (.inr ⟨z, r1, hp1 W1 H1 _ (.refl W1) srcok_str hH1⟩)
  | obj n =>
    have hp1 : Post X.K cl E (fun W s J => SrcOk X cl s J W) W1 ((match M1[n]? with | some (.lst xs) => some (.ok (.ob n xs), M1) | _ => none : Out Src)) R := hp1
    obtain ⟨a, z, ea⟩ := r1
    cases e : M1[n]? with
    | none => simp only [e] at hp1; exact hp1.elim
    | some mo =>
      simp only [e] at hp1
      cases mo with
      | lst xs =>
        obtain ⟨b, eb, _, _, vs, ho, q⟩ := hH1.obj n _ e
        rw [ea] at eb
        have eb := Option.some.inj eb
        subst eb
        exact .inl ⟨a, z, ⟨vs, .inl (Rd.of ho)⟩, hp1 W1 H1 _ (.refl W1) (srcok_ob ea) hH1⟩
      | _ => exact hp1.elim
  | _ => exact hp1.elim⟩
theorem small62_ok {i : Int} (h : small62 i = true) : -(2 ^ 62) ≤ i ∧ i < 2 ^ 62 := ⟨of_decide_eq_true (Bool.and_eq_true_iff.mp h).1, of_decide_eq_true (Bool.and_eq_true_iff.mp h).2⟩
theorem pdi_rng1 {p : Pos} (hg : Gl X "range") (hm : X.mg "range" = none) (ha : PD X cl E a ma) (hs : starEach [a] X.env = [(false, eval a X.env)] := by rfl) : PDI X cl E tg (.Call (.Name "range" p) [a] [] pos) (iR [ma]) :=
  PI.imp (pi_range1 hg hm (pda_cons ha pda_nil hs) hs) fun σ H R ⟨ρ, M, W, hρ, hH, hp⟩ => ⟨ρ, M, W, hρ, hH, Post.seqL hp fun ds M1 W1 H1 vs l1 r1 hl hH1 hp1 => by
    match ds, r1, hl, hp1 with
    | [d], r1, _, hp1 =>
      obtain ⟨v, rfl, rv⟩ := r1.one_of
      cases d with
      | int j =>
        have hp1 : Post X.K cl E (fun W s J => SrcOk X cl s J W) W1 ((if small62 j = true then Mo.ret (.frz (rngL 0 j)) else Mo.stop : Mo Src) M1) R := hp1
        by_cases c : small62 j = true
        · rw [if_pos c] at hp1
          obtain ⟨c1, c2⟩ := small62_ok c
          refine ⟨j, by rw [show v = _ from rv], c1, c2, hp1 W1 H1 _ (.refl W1) ?_ hH1⟩
          unfold rngL
          rw [show (j - 0).toNat = j.toNat by rw [Int.sub_zero]]
          exact srcok_rng
        · rw [if_neg c] at hp1; exact hp1.elim
      | _ => exact hp1.elim⟩
theorem pdi_rng2 {p : Pos} (hg : Gl X "range") (hm : X.mg "range" = none) (ha : PD X cl E a ma) (hb : PD X cl E b mb) (hs : starEach [a, b] X.env = [(false, eval a X.env), (false, eval b X.env)] := by rfl) (hs2 : starEach [b] X.env = [(false, eval b X.env)] := by rfl) : PDI X cl E tg (.Call (.Name "range" p) [a, b] [] pos) (iR [ma, mb]) :=
  PI.imp (pi_range2 hg hm (pda_cons ha (pda_cons hb pda_nil hs2) (by rw [hs, hs2])) hs hs2) fun σ H R ⟨ρ, M, W, hρ, hH, hp⟩ => ⟨ρ, M, W, hρ, hH, Post.seqL hp fun ds M1 W1 H1 vs l1 r1 hl hH1 hp1 => by
    match ds, r1, hl, hp1 with
    | [d, d2], r1, _, hp1 =>
      obtain ⟨v, us, e1, rv, r2⟩ := r1
      obtain ⟨v2, rfl, rv2⟩ := r2.one_of
      cases d with
      | int i =>
        cases d2 with
        | int j =>
          have hp1 : Post X.K cl E (fun W s J => SrcOk X cl s J W) W1 ((if (small62 i && small62 j) = true then Mo.ret (.frz (rngL i j)) else Mo.stop : Mo Src) M1) R := hp1
          by_cases c : (small62 i && small62 j) = true
          · rw [if_pos c] at hp1
            obtain ⟨c0, c1⟩ := Bool.and_eq_true_iff.mp c
            obtain ⟨c2, c3⟩ := small62_ok c0
            obtain ⟨c4, c5⟩ := small62_ok c1
            exact ⟨i, j, by rw [e1, show v = _ from rv, show v2 = _ from rv2], ⟨c2, c3, c4, c5⟩, hp1 W1 H1 _ (.refl W1) srcok_rng hH1⟩
          · rw [if_neg c] at hp1; exact hp1.elim
        | _ => exact hp1.elim
      | _ => cases d2 <;> exact hp1.elim⟩
/-! ### comprehensions -/
inductive CT where
  | one (i : Nat) | tup (is : List Nat)
def setAll {α : Type} : List Nat → List α → List (Option α) → List (Option α)
  | i :: is, d :: ds, ρ => setAll is ds (ρ.set i (some d))
  | _, _, ρ => ρ
def CT.put : CT → D → Rho → Mo Rho
  | .one i, d, ρ => Mo.ret (ρ.set i (some d))
  | .tup is, .tup ds, ρ => if ds.length = is.length then Mo.ret (setAll is ds ρ) else Mo.stop
  | .tup _, _, _ => Mo.stop
def CT.own : CT → List Nat
  | .one i => [i]
  | .tup is => is
def wipeR (ρ : Rho) : List Nat → Rho
  | [] => ρ
  | v :: vs => (wipeR ρ vs).set v none
noncomputable def loopC (g : CT) (t : Rho → Mo Bool) (e : XE) (s : Src) (ρ0 : Rho) : List D → Mo (List D)
  | [] => Mo.ret []
  | x :: xs => Mo.bnd (g.put x ρ0) fun ρ1 => Mo.bnd (t ρ1) fun c => if c = true then Mo.bnd (e ρ1) fun y => Mo.bnd (chk s) fun _ => Mo.bnd (loopC g t e s ρ0 xs) fun ys => Mo.ret (y :: ys) else Mo.bnd (chk s) fun _ => loopC g t e s ρ0 xs
/-- no exception leaves -/
def noex {α : Type} (m : Mo α) : Mo α := fun M => match m M with
  | some (.error _, _) => none
  | r => r
def tAll : Rho → Mo Bool := fun _ => Mo.ret true
noncomputable def eLc (it : Rho → Mo Src) (g : CT) (t : Rho → Mo Bool) (e : XE) (own : List Nat) : XE := fun ρ => Mo.bnd (it ρ) fun s => Mo.bnd (chk s) fun _ => Mo.bnd (noex (if fits s.xs.length = true then loopC g t e s (wipeR ρ own) s.xs else Mo.stop)) fun ys => Mo.ret (.lst ys)
def gCT (K : PySem.W.Frag) : CT → TG
  | .one i => gName i
  | .tup is => gTup K is.length (is.foldr (fun i g => gCons (gName i) g) gNil)
theorem wipe_rho {W : Wd} {σ : L2.St} {ρ : Rho} (h : RhoR X.K W σ ρ) : ∀ vs, RhoR X.K W (wipe σ vs) (wipeR ρ vs)
  | [] => h
  | v :: vs => by
    have ih := wipe_rho h vs
    unfold wipe wipeR
    refine ⟨by simp [ih.1], fun i d e => ?_⟩
    by_cases hi : v = i
    · subst hi
      by_cases hv : v < (wipeR ρ vs).length
      · rw [List.getElem?_set_self hv] at e; cases e
      · rw [List.getElem?_eq_none (by simpa using hv)] at e; cases e
    · rw [List.getElem?_set_ne hi] at e ⊢
      exact ih.2 i d e
theorem wipe_set {σ : L2.St} {v : Option V} {i : Nat} : ∀ {vs : List Nat}, i ∈ vs → wipe (σ.set i v) vs = wipe σ vs
  | u :: vs, h => by
    unfold wipe
    by_cases hu : i ∈ vs
    · rw [wipe_set hu]
    · have e : i = u := by
        rcases List.mem_cons.mp h with e | e
        · exact e
        · exact absurd e hu
      subst e
      have key : ∀ (us : List Nat) (σ : L2.St), i ∉ us → wipe (σ.set i v) us = (wipe σ us).set i v := by
        intro us
        induction us with
        | nil => intro σ _; rfl
        | cons w us ih =>
          intro σ hw
          have h1 : i ≠ w := fun z => hw (by rw [z]; exact List.mem_cons_self)
          have h2 : i ∉ us := fun z => hw (List.mem_cons_of_mem _ z)
          unfold wipe
          rw [ih σ h2, List.set_comm _ _ h1]
      rw [key vs σ hu, List.set_set]
/-- the target of a comprehension -/
theorem gCT_of {own : List Nat} {g : CT} (hown : ∀ i ∈ g.own, i ∈ own) {d : D} {v : V} {σ : L2.St} {ρ : Rho} {M : MS} {W : Wd} {H : Hp} {Q : L2.St → Hp → Prop} (rd : Rep X.K W d v) (hρ : RhoR X.K W σ ρ) (hH : HRel X.K cl W M H) {ρ1 : Rho} {M1 : MS} (hp : g.put d ρ M = some (.ok ρ1, M1))
    (k : ∀ σ1, wipe σ1 own = wipe σ own → RhoR X.K W σ1 ρ1 → M1 = M → Q σ1 H) : gCT X.K g v σ H Q := by
  cases g with
  | one i =>
    cases hp
    exact k _ (wipe_set (hown i List.mem_cons_self)) (hρ.set rd i) rfl
  | tup is =>
    cases d with
    | tup ds =>
      have hp : (if ds.length = is.length then Mo.ret (setAll is ds ρ) else Mo.stop : Mo Rho) M = some (.ok ρ1, M1) := hp
      by_cases c : ds.length = is.length
      · rw [if_pos c] at hp
        cases hp
        obtain ⟨a, vs, z, s, q⟩ := sqT_of hH rd
        refine ⟨a, vs, z, s, by rw [q.length]; exact c, ?_⟩
        clear s z rd
        have go : ∀ (is : List Nat) (ds : List D) (vs : List V) (σ' : L2.St) (ρ : Rho), (∀ i ∈ is, i ∈ own) → ds.length = is.length → Reps X.K W ds vs → RhoR X.K W σ' ρ → wipe σ' own = wipe σ own → (∀ σ1, wipe σ1 own = wipe σ own → RhoR X.K W σ1 (setAll is ds ρ) → Q σ1 H) →
            (is.foldr (fun i g => gCons (gName i) g) gNil : TGs) vs σ' H Q := by
          intro is
          induction is with
          | nil =>
            intro ds vs σ' ρ _ hl q hρ hw k
            cases ds with
            | nil => exact ⟨q, k _ hw hρ⟩
            | cons d ds => cases hl
          | cons i is ih =>
            intro ds vs σ' ρ ho hl q hρ hw k
            cases ds with
            | nil => cases hl
            | cons d ds =>
              obtain ⟨v, us, e, rv, ru⟩ := q
              refine ⟨v, us, e, ih ds us _ _ (fun j hj => ho j (List.mem_cons_of_mem _ hj)) (by simpa using hl) ru (hρ.set rv i) ?_ k⟩
              rw [wipe_set (ho i List.mem_cons_self)]; exact hw
        exact go is ds vs σ ρ hown c q hρ rfl fun σ1 h1 h2 => k σ1 h1 h2 rfl
      · rw [if_neg c] at hp; cases hp
    | _ => cases hp
theorem put_same {g : CT} {d : D} {ρ ρ1 : Rho} {M M1 : MS} (h : g.put d ρ M = some (.ok ρ1, M1)) : M1 = M := by
  cases g with
  | one i => cases h; rfl
  | tup is =>
    cases d with
    | tup ds =>
      have h : (if ds.length = is.length then Mo.ret (setAll is ds ρ) else Mo.stop : Mo Rho) M = some (.ok ρ1, M1) := h
      by_cases c : ds.length = is.length
      · rw [if_pos c] at h; cases h; rfl
      · rw [if_neg c] at h; cases h
    | _ => cases h
theorem noex_ok {α : Type} {m : Mo α} {M : MS} {r : Except Ex α × MS} (h : noex m M = some r) : ∃ a M1, r = (.ok a, M1) ∧ m M = some (.ok a, M1) := by
  unfold noex at h
  cases e : m M with
  | none => rw [e] at h; cases h
  | some q =>
    rw [e] at h
    obtain ⟨q, M1⟩ := q
    cases q with
    | error x => cases h
    | ok a => cases h; exact ⟨a, M1, rfl, rfl⟩
/-- what is wanted of a piece that comes through -/
theorem Post.sure {α β : Type} {R : Wd → α → β → Prop} {W : Wd} {m : Mo α} {M M1 : MS} {a : α} {Q : β → Hp → Prop} {E : XK} (e : m M = some (.ok a, M1)) (k : ∀ W' H' v, W.le W' → R W' a v → HRel X.K cl W' M1 H' → Q v H') : Post X.K cl E R W (m M) Q := by
  rw [e]; exact k
theorem noex_post {α : Type} {W : Wd} {m : Mo α} {M : MS} {E : XK} {γ δ : Type} {S : Wd → γ → δ → Prop} {f : α → Mo γ} {Q2 : δ → Hp → Prop} (h : Post X.K cl E S W (Mo.bnd (noex m) f M) Q2) : ∃ a M1, m M = some (.ok a, M1) ∧ Post X.K cl E S W (f a M1) Q2 := by
  unfold Mo.bnd at h
  cases e : noex m M with
  | none => rw [e] at h; exact h.elim
  | some r =>
    obtain ⟨a, M1, rfl, e2⟩ := noex_ok e
    rw [e] at h
    exact ⟨a, M1, e2, h⟩
theorem chk_ok2 {γ δ : Type} {S : Wd → γ → δ → Prop} {s : Src} {M : MS} {f : Unit → Mo γ} {W : Wd} {Q : δ → Hp → Prop} (h : Post X.K cl E S W (Mo.bnd (chk s) f M) Q) : s.ok M ∧ Post X.K cl E S W (f () M) Q := by
  unfold Mo.bnd chk at h
  by_cases c : s.ok M
  · simp only [if_pos c] at h; exact ⟨c, h⟩
  · simp only [if_neg c] at h; exact h.elim
theorem chk_eq {α : Type} {s : Src} {M : MS} {f : Unit → Mo α} {r : Except Ex α × MS} (h : Mo.bnd (chk s) f M = some r) : s.ok M ∧ f () M = some r := by
  unfold Mo.bnd chk at h
  by_cases c : s.ok M
  · simp only [if_pos c] at h; exact ⟨c, h⟩
  · simp only [if_neg c] at h; cases h
/-- the block's turns: D stands aside and grows -/
theorem lc_turns {J : It} {s : Src} {g : CT} {t : Rho → Mo Bool} {e : XE} {own : List Nat} {σ : L2.St} {ρ : Rho} {W1 : Wd} {M1 M3 : MS} {H1 : Hp} {Q : VK} {ys : List D} {Dd : Addr} (hown : ∀ i ∈ g.own, i ∈ own) (hρ : RhoR X.K W1 σ ρ) (so : SrcOk X cl s J W1) (hH1 : HRel X.K cl W1 M1 H1) (ok1 : s.ok M1) (hn : H1 Dd = none) (hz : s.xs.length ≤ sizeLine)
    (hr : loopC g t e s (wipeR ρ own) s.xs M1 = some (.ok ys, M3)) (fin : ∀ W' H', W1.le W' → Rep X.K W' (.lst ys) (.ref Dd) → HRel X.K cl W' M3 H' → Q (.ref Dd) H') :
    ∃ W : Nat → Nat → Hp → Prop, (∃ m, W 0 m (upd H1 Dd (.lst []))) ∧ ∀ i m H, W i m H → (J.stop i H ∧ Q (.ref Dd) H) ∨ (J.go i H ∧ ∃ Nx : Hp → Prop, (∀ H', Nx H' → ∃ m', m' < m ∧ W (i + 1) m' H') ∧ ∀ x H', J.yld i H x H' → gCT X.K g x (wipe σ own) H' fun σ2 H2 => wipe σ2 own = wipe σ own ∧ tT X.K cl E0 t σ2 H2 fun b H3 =>
      if b = true then tD X.K cl E0 e σ2 H3 fun y H4 => ∃ acc, H4 Dd = some (.lst acc) ∧ acc.length < sizeLine ∧ Nx (upd H4 Dd (.lst (acc ++ [y]))) else Nx H3) := by
  refine ⟨fun i m H => m = s.xs.length - i ∧ i ≤ s.xs.length ∧ ∃ W M as vs zs, W1.le W ∧ W.F Dd = some (.lst vs) ∧ Reps X.K W as vs ∧ vs.length ≤ i ∧ HRel X.K cl W M H ∧ s.ok M ∧ loopC g t e s (wipeR ρ own) (s.xs.drop i) M = some (.ok zs, M3) ∧ as ++ zs = ys, ⟨_, rfl, Nat.zero_le _, ?_⟩, ?_⟩
  · obtain ⟨l, h⟩ := hH1.hold (o := .lst []) hn
    exact ⟨_, M1, [], [], ys, l, upd_same, rfl, Nat.le_refl _, h, ok1, by rw [List.drop_zero]; exact hr, rfl⟩
  · rintro i m H ⟨rfl, hi, W, M, as, vs, zs, l, hF, hA, hlen, hH, ok, hr, hcat⟩
    by_cases hlt : i < s.xs.length
    · obtain ⟨go, yl⟩ := so.go i s.xs[i] W M H l.v hH ok (by simp [hlt])
      refine .inr ⟨go, fun H => ∃ W M as vs zs, W1.le W ∧ W.F Dd = some (.lst vs) ∧ Reps X.K W as vs ∧ vs.length ≤ i + 1 ∧ HRel X.K cl W M H ∧ s.ok M ∧ loopC g t e s (wipeR ρ own) (s.xs.drop (i + 1)) M = some (.ok zs, M3) ∧ as ++ zs = ys, fun H' p => ⟨_, ?_, rfl, hlt, p⟩, fun v H' y => ?_⟩
      · omega
      obtain ⟨W', l', rx, hH'⟩ := yl v H' y
      rw [List.drop_eq_getElem_cons hlt] at hr
      obtain ⟨ρ1, Ma, hput, hr1⟩ := Mo.bnd_ok (show Mo.bnd (g.put s.xs[i] (wipeR ρ own)) _ M = _ from hr)
      have eM := put_same hput
      subst eM
      refine gCT_of hown rx (wipe_rho (hρ.up (l.trans l')) own) hH' hput fun σ1 hw h1 _ => ⟨by
        rw [hw]
        clear hw h1 hput hr1
        have : ∀ us : List Nat, wipe (wipe σ own) own = wipe σ own := by
          intro _
          have idem : ∀ (us ws : List Nat) (σ : L2.St), (∀ u ∈ us, u ∈ ws) → wipe (wipe σ us) ws = wipe σ ws := by
            intro us
            induction us with
            | nil => intro ws σ _; rfl
            | cons u us ih =>
              intro ws σ h
              show wipe ((wipe σ us).set u none) ws = _
              rw [wipe_set (h u List.mem_cons_self)]
              exact ih ws σ fun x hx => h x (List.mem_cons_of_mem _ hx)
          exact idem own own σ fun _ h => h
        exact this [], ρ1, _, W', h1, hH', ?_⟩
      obtain ⟨c, Mb, ht, hr2⟩ := Mo.bnd_ok hr1
      refine Post.sure ht fun W2 H2 c' l2 ec hH2 => ?_
      subst ec
      cases c with
      | false =>
        refine iteF ?_
        simp only [Bool.false_eq_true, if_false] at hr2
        obtain ⟨ok2, hr3⟩ := chk_eq hr2
        exact ⟨W2, Mb, as, vs, zs, l.trans (l'.trans l2), l2.f _ _ (l'.f _ _ hF), hA.up (l'.trans l2), Nat.le_succ_of_le hlen, hH2, ok2, hr3, hcat⟩
      | true =>
        refine iteT ?_
        simp only [if_true] at hr2
        obtain ⟨y, Mc, he, hr3⟩ := Mo.bnd_ok hr2
        refine ⟨ρ1, Mb, W2, h1.up l2, hH2, Post.sure he fun W3 H3 u l3 ru hH3 => ?_⟩
        obtain ⟨ok3, hr4⟩ := chk_eq hr3
        obtain ⟨zs2, Md, hr5, hr6⟩ := Mo.bnd_ok hr4
        cases hr6
        have hF3 := l3.f _ _ (l2.f _ _ (l'.f _ _ hF))
        refine ⟨vs, (hH3.fle _ _ hF3).1, by omega, ?_⟩
        have hh := hH3.held (o := .lst (vs ++ [u])) hF3
        have hnD : W1.F Dd = none := hH1.fnone hn
        refine ⟨_, Mc, as ++ [y], vs ++ [u], zs2, ?_, upd_same, ?_, by simp; omega, hh, ok3, hr5, by rw [List.append_assoc]; exact hcat⟩
        · have lt := l.trans (l'.trans (l2.trans l3))
          exact ⟨lt.i, lt.g, fun b o eb => by
            show upd W3.F Dd _ b = some o
            rw [upd_ne (ne_of_none eb hnD)]
            exact lt.f _ _ eb⟩
        · have base : Reps X.K W3 (as ++ [y]) (vs ++ [u]) := (hA.up (l'.trans (l2.trans l3))).append (Reps.one ru)
          exact Reps.upv (W := W3) (W' := ⟨W3.ι, W3.G, _⟩) base ⟨fun _ _ z => z, fun _ _ z => z⟩
    · have e : i = s.xs.length := by omega
      subst e
      rw [List.drop_length] at hr
      cases hr
      rw [List.append_nil] at hcat
      subst hcat
      refine .inl ⟨so.stop W _ H l.v hH ok, ?_⟩
      -- D is frozen
      obtain ⟨hDH, hDG⟩ := hH.fle _ _ hF
      have hnD : W1.F Dd = none := hH1.fnone hn
      refine fin ⟨W.ι, upd W.G Dd (.lst vs), fun b => if b = Dd then none else W.F b⟩ H ⟨l.i, fun b o eb => ?_, fun b o eb => ?_⟩ ⟨Dd, vs, rfl, Rd.of upd_same, ?_⟩ ⟨fun b o eb => ?_, hH.len, fun n mo en => ?_, hH.nd, fun b o eb => ?_⟩
      · show upd W.G Dd _ b = some o
        rw [upd_ne (ne_of_none (l.g _ _ eb) hDG)]
        exact l.g _ _ eb
      · show (if b = Dd then none else W.F b) = some o
        rw [if_neg (ne_of_none eb hnD)]
        exact l.f _ _ eb
      · exact Reps.upv (W := W) (W' := ⟨W.ι, upd W.G Dd (.lst vs), _⟩) hA ⟨fun _ _ z => z, fun b o eb => by
          show upd W.G Dd _ b = some o
          rw [upd_ne (ne_of_none eb hDG)]; exact eb⟩
      · have eb : upd W.G Dd (.lst vs) b = some o := eb
        by_cases q : b = Dd
        · subst q
          rw [upd_same] at eb
          rw [← eb]; exact hDH
        · rw [upd_ne q] at eb
          exact hH.gle _ _ eb
      · obtain ⟨b, e1, e2, e3, r⟩ := hH.obj n mo en
        have ne : b ≠ Dd := fun z => by subst z; rw [e3] at hF; cases hF
        refine ⟨b, e1, fun z => ?_, ?_, ?_⟩
        · show upd W.G Dd _ b = none
          rw [upd_ne ne]; exact e2 z
        · show (if b = Dd then none else W.F b) = none
          rw [if_neg ne]; exact e3
        · exact RepMO.upv (W := W) (W' := ⟨W.ι, upd W.G Dd (.lst vs), _⟩) ⟨fun _ _ z => z, fun b o eb => by
            show upd W.G Dd _ b = some o
            rw [upd_ne (ne_of_none eb hDG)]; exact eb⟩ r
      · have eb : (if b = Dd then none else W.F b) = some o := eb
        by_cases q : b = Dd
        · rw [if_pos q] at eb; cases eb
        · rw [if_neg q] at eb
          obtain ⟨h1, h2⟩ := hH.fle _ _ eb
          refine ⟨h1, ?_⟩
          show upd W.G Dd _ b = none
          rw [upd_ne q]; exact h2
theorem tLc_of {it : Rho → Mo Src} {g : CT} {t : Rho → Mo Bool} {e : XE} {own : List Nat} (hown : ∀ i ∈ g.own, i ∈ own) : ∀ σ H Q, tD X.K cl E (eLc it g t e own) σ H Q → tLc (tI X cl E it) (gCT X.K g) (tT X.K cl E0 t) (tD X.K cl E0 e) own σ H Q :=
  fun σ H Q ⟨ρ, M, W, hρ, hH, hp⟩ => ⟨ρ, M, W, hρ, hH, hp.seq fun s M1 W1 H1 J l1 so hH1 hp1 => by
    obtain ⟨ok1, hp2⟩ := chk_ok2 hp1
    obtain ⟨ys, M3, e3, hp3⟩ := noex_post (X := X) (cl := cl) (E := E) hp2
    by_cases c : fits s.xs.length = true
    · rw [if_pos c] at e3
      exact fun Dd hn => lc_turns hown (hρ.up l1) so hH1 ok1 hn (fits_le c) e3 fun W' H' l r h => hp3 W' H' _ l r h
    · rw [if_neg c] at e3; cases e3⟩
theorem pd_lc {elt iter : Expr} {ifs : List Expr} {scope : Scope} {own : List (Str × Nat)} {g : CT} {t : Rho → Mo Bool} {mi : Rho → Mo Src} {m : XE} (hc : X.calm = true) (hN : X.N.Nodup) (hi : PDI X cl E tg iter mi) (ok : blkC X.N X.env.scope scope own = true)
    (hg : ∀ (s : Shared) (H : Hp) (C : Addr) (cl : List (Str × Addr)) (fp : List Addr), PG (X.blk s H scope (compEnvC scope cl C X.env) fp) tg (gCT X.K g)) (ht : ∀ (s : Shared) (H : Hp) (C : Addr) (cc : List (Str × Addr)) (fp : List Addr), PTs (X.blk s H scope (compEnvC scope cc C X.env) fp) ifs (tT X.K cl E0 t))
    (he : ∀ (s : Shared) (H : Hp) (C : Addr) (cc : List (Str × Addr)) (fp : List Addr), PD (X.blk s H scope (compEnvC scope cc C X.env) fp) cl E0 elt m) (hown : ∀ i ∈ g.own, i ∈ own.map (·.2) := by decide) (hs : ∀ x, foldedSetIterable iter X.env x = pure x := by intro _; rfl) :
    PD X cl E (.ListComp elt [⟨tg, iter, ifs, 0⟩] scope pos) (eLc mi g t m (own.map (·.2))) := PE.imp (pe_lc hc hN hi (blkOk_by ok) hg ht he hs) (tLc_of hown)
theorem pds_setLc {y : Str} {py spos : Pos} {elt iter : Expr} {ifs : List Expr} {scope : Scope} {own : List (Str × Nat)} {g : CT} {t : Rho → Mo Bool} {mi : Rho → Mo Src} {m : XE} (i : Nat) (hc : X.calm = true) (hN : X.N.Nodup) (hi : PDI X cl E tg iter mi) (ok : blkC X.N X.env.scope scope own = true)
    (hg : ∀ (s : Shared) (H : Hp) (C : Addr) (cl : List (Str × Addr)) (fp : List Addr), PG (X.blk s H scope (compEnvC scope cl C X.env) fp) tg (gCT X.K g)) (ht : ∀ (s : Shared) (H : Hp) (C : Addr) (cc : List (Str × Addr)) (fp : List Addr), PTs (X.blk s H scope (compEnvC scope cc C X.env) fp) ifs (tT X.K cl E0 t))
    (he : ∀ (s : Shared) (H : Hp) (C : Addr) (cc : List (Str × Addr)) (fp : List Addr), PD (X.blk s H scope (compEnvC scope cc C X.env) fp) cl E0 elt m) (hown : ∀ i ∈ g.own, i ∈ own.map (·.2) := by decide) (hs : ∀ x, foldedSetIterable iter X.env x = pure x := by intro _; rfl)
    (hy : X.N[i]? = some y := by rfl) (hyl : X.env.scope.names.lookup y = some .local := by rfl) (hsw : swapsWith (.ListComp elt [⟨tg, iter, ifs, 0⟩] scope pos) (some (.Name y py)) spos.line X.env = pure true := by exact sw_true rfl rfl rfl (by decide +kernel)) :
    PDS X cl E (.Assign [.Name y py] (.ListComp elt [⟨tg, iter, ifs, 0⟩] scope pos) spos) (sAsg (eLc mi g t m (own.map (·.2))) (gN i)) :=
  PS.imp (ps_setLc hc hN hy hyl hsw hi (blkOk_by ok) hg ht he hs) fun Dn σ H ⟨ρ, M, W, hρ, hH, hp⟩ => tLc_of hown σ H _ ⟨ρ, M, W, hρ, hH, hp.seq fun d M1 W1 H1 v l1 r1 hH1 hp1 => hp1.ret hH1 _ ((hρ.up l1).set r1 i)⟩
theorem pts_all {s : Shared} {H : Hp} {scope : Scope} {env : Env} {fp : List Addr} : PTs (X.blk s H scope env fp) [] (tT X.K cl E0 tAll) := ⟨fun pins s σ H Q I ⟨ρ, M, W, hρ, hH, hp⟩ => pts_nil.run pins s σ H Q I (hp W H true (.refl W) rfl hH)⟩
end
end DL

/-! DL: defs: what they make of plain values, their calls. -/
namespace DL
open PySem PySem.Spec PyProof.Rows L2

abbrev Fn := List D → Mo D
/-- exceptions of the kind E may leave here -/
abbrev Tk (X : Cx) (E : XK) : Prop := Takes X fun c d _ H => E c d H
abbrev Ow (X : Cx) : Prop := PassesOwn (model X.prog X.w) X.A X.env X.xe
def spD (K : PySem.W.Frag) (cl : Cl) (n : Nat) (F : Fn) : Sp := fun vs H Q E => vs.length = n ∧ ∃ ds M W, Reps K W ds vs ∧ HRel K cl W M H ∧ Post K cl E (Rep K) W (F ds M) Q
def fnK : Fl → Mo D
  | .nx _ => Mo.ret .non
  | .rt d => Mo.ret d
  | _ => Mo.stop
def fnB (n : Nat) (body : XS) : Fn := fun ds => Mo.bnd (body (ds.map some ++ List.replicate (n - ds.length) none)) fnK
section
variable {P : Program} {w : World} {K : PySem.W.Frag} {mg : Str → Option Value} {base : Heap} {cl : Cl}
/-- a def of the program and what it makes of plain values -/
structure DefOk (P : Program) (w : World) (K : PySem.W.Frag) (mg : Str → Option Value) (base : Heap) (cl : Cl) (x : Str) (k n : Nat) (F : Fn) : Prop where
  ex : ∃ f fd ps, ps.length = n ∧ FnOk P w K mg base (L2.CX P w) k f fd ps (spD K cl n F) ∧ mg x = some (.ref f) ∧ PySem.W.keepIn K (.ref f) = true ∧ Binds K fd ps []
theorem DefOk.mono {x : Str} {j k n : Nat} {F : Fn} (h : DefOk P w K mg base cl x j n F) (l : j ≤ k) : DefOk P w K mg base cl x k n F := by
  obtain ⟨f, fd, ps, a, b, c⟩ := h.ex
  exact ⟨f, fd, ps, a, b.mono l, c⟩
theorem spD.imp {n : Nat} {F F' : Fn} (h : ∀ ds M r, F' ds M = some r → F ds M = some r) : ∀ vs H Q E, spD K cl n F' vs H Q E → spD K cl n F vs H Q E := fun vs H Q E ⟨a, ds, M, W, r, hH, hp⟩ => ⟨a, ds, M, W, r, hH, by
  cases e : F' ds M with
  | none => rw [e] at hp; exact hp.elim
  | some q => rw [e] at hp; rw [h _ _ _ e]; exact hp⟩
/-- a def is what a function says that it makes, where that says something -/
theorem DefOk.imp {x : Str} {k n : Nat} {F F' : Fn} (h : DefOk P w K mg base cl x k n F) (i : ∀ ds M r, F' ds M = some r → F ds M = some r) : DefOk P w K mg base cl x k n F' := by
  obtain ⟨f, fd, ps, a, b, c⟩ := h.ex
  exact ⟨f, fd, ps, a, b.imp (spD.imp i), c⟩
theorem start_rho {W : Wd} {ds : List D} {vs : List V} {N : List Str} (r : Reps K W ds vs) : RhoR K W (L2.start N vs) (ds.map some ++ List.replicate (N.length - ds.length) none) := by
  refine ⟨by unfold L2.start; simp [r.length], fun i d e => ?_⟩
  unfold L2.start
  by_cases hi : i < ds.length
  · rw [List.getElem?_append_left (by simpa using hi), List.getElem?_map] at e
    obtain ⟨d', e1, e2⟩ := Option.map_eq_some_iff.mp e
    cases e2
    obtain ⟨v, e3, rv⟩ := r.get e1
    exact ⟨v, by rw [List.getElem?_append_left (by simpa [r.length] using hi), List.getElem?_map, e3]; rfl, rv⟩
  · rw [List.getElem?_append_right (by simpa using hi), List.getElem?_replicate] at e
    split at e <;> cases e
/-- THE RULE for a def: its body -/
theorem okDf {x qual : Str} {params : Arguments} {body : List Stmt} {scope : Scope} {f : Addr} {fd : FuncData} {N ps : List Str} {k : Nat} {m : XS} (Fd : FunD K x qual params body scope [] [] f fd) (S : FnScope N ps scope) 
    (h : ∀ (cdv : Value) (A : Around) (outer : List Env) (s : Shared) (H : Hp) (E : XK), Room k (A.deeper (envOfC qual scope s.heap.objs.size f cdv)) →
      Tk (cxOf (L2.CX P w) P w K mg base N qual scope f cdv A outer s H E) E → Ow (cxOf (L2.CX P w) P w K mg base N qual scope f cdv A outer s H E) → PDSs (cxOf (L2.CX P w) P w K mg base N qual scope f cdv A outer s H E) cl E body m) : FnOk P w K mg base (L2.CX P w) (k + 1) f fd ps (spD K cl ps.length (fnB N.length m)) := by
  refine Fd.ok S (fun vs H Q E h => h.1) fun cdv A outer s H vs Q E hr ⟨hl, ds, M, W, r, hH, hp⟩ => ⟨_, h cdv A outer s H E hr (takes_of (X := cxOf (L2.CX P w) P w K mg base N qual scope f cdv A outer s H E) rfl rfl rfl rfl) (passes_of (X := cxOf (L2.CX P w) P w K mg base N qual scope f cdv A outer s H E) rfl), _, M, W, start_rho (N := N) r, hH, ?_⟩
  unfold fnB at hp
  unfold Mo.bnd at hp
  cases e : m (ds.map some ++ List.replicate (N.length - ds.length) none) M with
  | none => rw [e] at hp; exact hp.elim
  | some q =>
    rw [e] at hp
    obtain ⟨q, M1⟩ := q
    cases q with
    | error x => exact hp
    | ok fl =>
      intro W1 H1 l1 hH1
      have hp1 : Post K cl E (Rep K) W1 (fnK fl M1) Q := Post.up hp l1
      cases fl with
      | nx ρ => exact fun σ _ => hp1 W1 H1 _ (.refl W1) rfl hH1
      | rt d => exact fun v rv => hp1 W1 H1 v (.refl W1) rv hH1
      | bk ρ => exact hp1.elim
      | ct ρ => exact hp1.elim
/-- THE RULE for a def: its body -/
theorem okD {x qual : Str} {params : Arguments} {body : List Stmt} {scope : Scope} {f : Addr} {fd : FuncData} {N ps : List Str} {k : Nat} {m : XS} (Fd : FunD K x qual params body scope [] [] f fd) (S : FnScope N ps scope) (gm : mg x = some (.ref f))
    (hb : ∀ (kV doc pm : Value) (an : Option Addr) (cdv ct : Value) (us : List Value), us.length = ps.length → bindArgs (PySem.W.fnOf x qual params body scope .none kV doc pm an cdv ct) ⟨us, []⟩ = pure (ps.zip us))
    (h : ∀ (cdv : Value) (A : Around) (outer : List Env) (s : Shared) (H : Hp) (E : XK), Room k (A.deeper (envOfC qual scope s.heap.objs.size f cdv)) →
      Tk (cxOf (L2.CX P w) P w K mg base N qual scope f cdv A outer s H E) E → Ow (cxOf (L2.CX P w) P w K mg base N qual scope f cdv A outer s H E) → PDSs (cxOf (L2.CX P w) P w K mg base N qual scope f cdv A outer s H E) cl E body m) : DefOk P w K mg base cl x (k + 1) ps.length (fnB N.length m) :=
  ⟨f, fd, ps, rfl, okDf Fd S h, gm, Fd.kp, Fd.bindsN hb⟩
end
section
variable {X : Cx} {cl : Cl} {E : XK} {pos : Pos} {a b c e tg : Expr} {es : List Expr} {ma mb : XE}
theorem pd_call {x : Str} {p : Pos} {k n j : Nat} {F : Fn} {ms : List XE} (G : DefOk X.prog X.w X.K X.mg X.base cl x k n F) (hr : Room j X.A) (tk : Tk X E) (ha : PDA X cl E (e :: es) (aL ms)) (hk : k ≤ j := by omega) (hn : ms.length = n := by rfl) (hg : Gl X x := by rfl) (hdb : (x == ("__debug__" : Str)) = false := by decide) (he : starEach (e :: es) X.env = (false, eval e X.env) :: starEach es X.env := by rfl) (hpl : (backTo pos (starEach es X.env)).any (·.1) = false := by rfl) :
    PD X cl E (.Call (.Name x p) (e :: es) [] pos) (eB F ms) := by
  obtain ⟨f, fd, ps, hl, ok, gm, kp, bi⟩ := G.ex
  exact PE.imp (pe_call ok (hr.mono hk) hg gm kp bi .nil (passes_call tk fun _ _ _ _ h => h) ha hdb he hpl) fun σ H Q ⟨ρ, M, W, hρ, hH, hp⟩ => ⟨ρ, M, W, hρ, hH, Post.seqL hp fun ds M1 W1 H1 vs l1 r1 hz hH1 hp1 => ⟨by
    rw [List.append_nil, r1.length, hz, hn], ds, M1, W1, by rw [List.append_nil]; exact r1, hH1, hp1⟩⟩
theorem pd_call0 {x : Str} {p : Pos} {k j : Nat} {F : Fn} (G : DefOk X.prog X.w X.K X.mg X.base cl x k 0 F) (hr : Room j X.A) (tk : Tk X E) (hk : k ≤ j := by omega) (hg : Gl X x := by rfl) (hdb : (x == ("__debug__" : Str)) = false := by decide) :
    PD X cl E (.Call (.Name x p) [] [] pos) (eB F []) := by
  obtain ⟨f, fd, ps, hl, ok, gm, kp, bi⟩ := G.ex
  exact PE.imp (pe_call0 ok (hr.mono hk) hg gm kp bi .nil (passes_call tk fun _ _ _ _ h => h) hdb) fun σ H Q ⟨ρ, M, W, hρ, hH, hp⟩ => ⟨rfl, [], M, W, rfl, hH, hp⟩
/-! ### methods of lists -/
def appD (o v : D) : Mo D := fun M => match o with
  | .obj n => (match M[n]? with
    | some (.lst xs) => if fits (xs.length + 1) = true then some (.ok .non, M.set n (.lst (xs ++ [v]))) else none
    | _ => none)
  | _ => none
theorem HRel.putL {W : Wd} {M : MS} {H : Hp} {n : Nat} {xs ys : List D} {us : List V} {a : Addr} (hH : HRel X.K cl W M H) (e : M[n]? = some (.lst xs)) (ea : W.ι[n]? = some a) (r : Reps X.K W ys us) : HRel X.K cl W (M.set n (.lst ys)) (upd H a (.lst us)) :=
  hH.set e (fun z => nomatch z) (fun z => nomatch z) ea ⟨_, rfl, r⟩
theorem HRel.getL {W : Wd} {M : MS} {H : Hp} {n : Nat} {xs : List D} {a : Addr} (hH : HRel X.K cl W M H) (e : M[n]? = some (.lst xs)) (ea : W.ι[n]? = some a) : ∃ vs, H a = some (.lst vs) ∧ Reps X.K W xs vs := by
  obtain ⟨b, eb, _, _, vs, ho, q⟩ := hH.obj n _ e
  rw [ea] at eb
  have eb := Option.some.inj eb
  subst eb
  exact ⟨vs, ho, q⟩
/-- a method of a built-in type: what stands ahead of the dot is looked at first -/
def guardB (p : MS → Bool) : Mo Unit := fun M => if p M = true then some (.ok (), M) else none
def eM (pre : MS → D → Bool) (g : D → List D → Mo D) (mo : XE) (ms : List XE) : XE := fun ρ => Mo.bnd (mo ρ) fun o => Mo.bnd (guardB fun M => pre M o) fun _ => Mo.bnd (aL ms ρ) fun ds => g o ds
variable (X cl E) in
structure MtOk (T : String) (r : V → List V → Hp → VK → Prop) (pre : MS → D → Bool) (g : D → List D → Mo D) : Prop where
  ty : ∀ o M W H v, pre M o = true → Rep X.K W o v → HRel X.K cl W M H → tyV X.K T v H
  run : ∀ o ds M W H v vs Q, Rep X.K W o v → Reps X.K W ds vs → HRel X.K cl W M H → Post X.K cl E (Rep X.K) W (g o ds M) Q → r v vs H Q
theorem guardB_ok {α β γ : Type} {S : Wd → α → β → Prop} {p : MS → Bool} {M : MS} {f : Unit → Mo α} {W : Wd} {Q : β → Hp → Prop} (h : Post X.K cl E S W (Mo.bnd (guardB p) f M) Q) : p M = true ∧ Post X.K cl E S W (f () M) Q := by
  unfold Mo.bnd guardB at h
  by_cases c : p M = true
  · simp only [if_pos c] at h; exact ⟨c, h⟩
  · simp only [if_neg c] at h; exact h.elim
theorem pd_bm {ex : Expr} {T : String} {r : V → List V → Hp → VK → Prop} {pre : MS → D → Bool} {g : D → List D → Mo D} {mo : XE} {ms : List XE} (k : MtOk X cl E T r pre g) (h : PE X ex (tBM X.K T r (tD X.K cl E mo) (tA X.K cl E (aL ms)))) : PD X cl E ex (eM pre g mo ms) :=
  PE.imp h fun σ H Q ⟨ρ, M, W, hρ, hH, hp⟩ => ⟨ρ, M, W, hρ, hH, hp.seq fun o M1 W1 H1 x l1 r1 hH1 hp1 => by
    obtain ⟨c, hp2⟩ := guardB_ok (γ := Unit) hp1
    exact ⟨k.ty o M1 W1 H1 x c r1 hH1, ρ, M1, W1, hρ.up l1, hH1, hp2.seq fun ds M2 W2 H2 vs l2 r2 hH2 hp2 => k.run o ds M2 W2 H2 x vs Q (r1.up l2) r2 hH2 hp2⟩⟩
theorem pd_bm0 {ex : Expr} {T : String} {r : V → List V → Hp → VK → Prop} {pre : MS → D → Bool} {g : D → List D → Mo D} {mo : XE} (k : MtOk X cl E T r pre g) (h : PE X ex (tBM0 X.K T r (tD X.K cl E mo))) : PD X cl E ex (eM pre g mo []) :=
  PE.imp h fun σ H Q ⟨ρ, M, W, hρ, hH, hp⟩ => ⟨ρ, M, W, hρ, hH, hp.seq fun o M1 W1 H1 x l1 r1 hH1 hp1 => by
    obtain ⟨c, hp2⟩ := guardB_ok (γ := Unit) hp1
    exact ⟨k.ty o M1 W1 H1 x c r1 hH1, k.run o [] M1 W1 H1 x [] Q r1 rfl hH1 hp2⟩⟩
def isObL (M : MS) (d : D) : Bool := match d with
  | .obj n => (match M[n]? with
    | some (.lst _) => true
    | _ => false)
  | _ => false
theorem isObL_ok {M : MS} {d : D} (h : isObL M d = true) : ∃ n xs, d = .obj n ∧ M[n]? = some (.lst xs) := by
  cases d with
  | obj n =>
    unfold isObL at h
    cases e : M[n]? with
    | none => simp [e] at h
    | some mo =>
      cases mo with
      | lst xs => exact ⟨n, xs, rfl, e⟩
      | _ => simp [e] at h
  | _ => cases h
theorem obL_ty {M : MS} {d : D} {W : Wd} {H : Hp} {v : V} (h : isObL M d = true) (r : Rep X.K W d v) (hH : HRel X.K cl W M H) : tyV X.K "list" v H := by
  obtain ⟨n, xs, rfl, e⟩ := isObL_ok h
  obtain ⟨a, z, ea⟩ := r
  obtain ⟨vs, ho, q⟩ := hH.getL e ea
  rw [z]
  exact .inl ⟨rfl, vs, SqL.of ho⟩
/-- xs.append(v) -/
def appL (o : D) (ds : List D) : Mo D := fun M => match o, ds with
  | .obj n, [v] => (match M[n]? with
    | some (.lst xs) => if fits (xs.length + 1) = true then some (.ok .non, M.set n (.lst (xs ++ [v]))) else none
    | _ => none)
  | _, _ => none
theorem mk_app : MtOk X cl E "list" rAppend isObL appL where
  ty := fun o M W H v h r hH => obL_ty h r hH
  run := fun o ds M W H v vs Q r rs hH hp => by
    cases o with
    | obj n =>
      match ds, rs, hp with
      | [d], rs, hp =>
        obtain ⟨u, rfl, ru⟩ := rs.one_of
        obtain ⟨a, z, ea⟩ := r
        have hp : Post X.K cl E (Rep X.K) W ((match M[n]? with | some (.lst xs) => if fits (xs.length + 1) = true then some (.ok .non, M.set n (.lst (xs ++ [d]))) else none | _ => none : Out D)) Q := hp
        cases e : M[n]? with
        | none => simp only [e] at hp; exact hp.elim
        | some mo =>
          simp only [e] at hp
          cases mo with
          | lst xs =>
            simp only at hp
            by_cases c : fits (xs.length + 1) = true
            · rw [if_pos c] at hp
              obtain ⟨us, ho, q⟩ := hH.getL e ea
              refine ⟨a, us, u, z, rfl, ho, by rw [q.length]; exact fits_le c, ?_⟩
              exact hp W _ _ (.refl W) rfl (hH.putL e ea (q.append (Reps.one ru)))
            · rw [if_neg c] at hp; exact hp.elim
          | _ => exact hp.elim
      | [], _, hp => exact hp.elim
      | _ :: _ :: _, _, hp => exact hp.elim
    | _ => exact hp.elim
end
/-! ### a def's own objects are forgotten, or frozen -/
mutual
def D.bd (k : Nat) : D → Bool
  | .obj n => decide (n < k)
  | .tup xs => bdL k xs
  | .lst xs => bdL k xs
  | _ => true
def bdL (k : Nat) : List D → Bool
  | [] => true
  | d :: ds => D.bd k d && bdL k ds
end
def MO.bd (k : Nat) : MO → Bool
  | .lst xs => bdL k xs
  | .ins _ fs => fs.all fun p => D.bd k p.2
  | .dK kvs => kvs.all fun p => D.bd k p.2
  | .dF kvs => kvs.all fun p => D.bd k p.2.1 && D.bd k p.2.2
  | .gone => true
def Wd.cut (W : Wd) (k : Nat) : Wd := ⟨W.ι.take k, W.G, W.F⟩
section
variable {K : PySem.W.Frag} {cl : Cl} {W W0 : Wd} {k : Nat}
mutual
theorem Rep.trunc : ∀ (d : D) (v : V), D.bd k d = true → Rep K W d v → Rep K (W.cut k) d v
  | .non, _, _, h => h
  | .emp, _, _, h => h
  | .scr _, _, _, h => h
  | .bl _, _, _, h => h
  | .int _, _, _, h => h
  | .str _, _, _, h => h
  | .tup ds, _, b, ⟨a, vs, e, s, r⟩ => ⟨a, vs, e, s, Reps.trunc ds vs b r⟩
  | .lst ds, _, b, ⟨a, vs, e, s, r⟩ => ⟨a, vs, e, s, Reps.trunc ds vs b r⟩
  | .obj n, _, b, ⟨a, e, h⟩ => ⟨a, e, by
    show (W.ι.take k)[n]? = some a
    rw [List.getElem?_take_of_lt (of_decide_eq_true b)]; exact h⟩
theorem Reps.trunc : ∀ (ds : List D) (vs : List V), bdL k ds = true → Reps K W ds vs → Reps K (W.cut k) ds vs
  | [], _, _, h => h
  | d :: ds, _, b, ⟨v, r, e, h1, h2⟩ => ⟨v, r, e, Rep.trunc d v (Bool.and_eq_true_iff.mp b).1 h1, Reps.trunc ds r (Bool.and_eq_true_iff.mp b).2 h2⟩
end
theorem Paired.impL {α β : Type} {R S : α → β → Prop} : ∀ {l : List α} {m : List β}, Paired R l m → (∀ a b, a ∈ l → R a b → S a b) → Paired S l m
  | _, _, .nil, _ => .nil
  | _, _, .cons r t, f => .cons (f _ _ List.mem_cons_self r) (Paired.impL t fun a b h => f a b (List.mem_cons_of_mem _ h))
theorem RepMO.trunc {mo : MO} {a : Addr} {ho : Option HO} (b : mo.bd k = true) (h : RepMO K cl W mo a ho) : RepMO K cl (W.cut k) mo a ho := by
  cases mo with
  | lst ds => obtain ⟨vs, e, r⟩ := h; exact ⟨vs, e, Reps.trunc ds vs b r⟩
  | ins c fs =>
    obtain ⟨dx, vs, e, r⟩ := h
    exact ⟨dx, vs, e, Paired.impL r fun p q hp z => ⟨z.1, Rep.trunc _ _ (List.all_eq_true.mp b p hp) z.2⟩⟩
  | dK kvs =>
    obtain ⟨vs, e, r⟩ := h
    exact ⟨vs, e, Paired.impL r fun p q hp z => ⟨z.1, Rep.trunc _ _ (List.all_eq_true.mp b p hp) z.2⟩⟩
  | dF kvs =>
    obtain ⟨es, e, r⟩ := h
    refine ⟨es, e, Paired.impL r fun p q hp ⟨y0, y1, y2, u, y3, y4⟩ => ?_⟩
    have := Bool.and_eq_true_iff.mp (List.all_eq_true.mp b p hp)
    exact ⟨y0, y1, Rep.trunc _ _ this.1 y2, u, Rep.trunc _ _ this.2 y3, y4⟩
  | gone => exact h
/-- the later objects are forgotten -/
theorem HRel.trunc {M M2 junk : MS} {H0 H : Hp} (h0 : HRel K cl W0 M H0) (l : W0.le W) (h : HRel K cl W (M2 ++ junk) H) (hl : M.length ≤ M2.length) (hM : ∀ (n : Nat) (mo : MO), M2[n]? = some mo → mo.bd M2.length = true) : W0.le (W.cut M2.length) ∧ HRel K cl (W.cut M2.length) M2 H := by
  have hlen : W.ι.length = M2.length + junk.length := by rw [h.len, List.length_append]
  refine ⟨⟨fun n a e => ?_, l.g, l.f⟩, ⟨h.gle, ?_, fun n mo e => ?_, ?_, h.fle⟩⟩
  · have hn := (List.getElem?_eq_some_iff.mp e).1
    rw [h0.len] at hn
    show (W.ι.take M2.length)[n]? = some a
    rw [List.getElem?_take_of_lt (by omega)]
    exact l.i n a e
  · show (W.ι.take M2.length).length = M2.length
    rw [List.length_take, hlen]; omega
  · have hn := (List.getElem?_eq_some_iff.mp e).1
    obtain ⟨a, e1, e2, e3, r⟩ := h.obj n mo (by rw [List.getElem?_append_left hn]; exact e)
    refine ⟨a, ?_, e2, e3, r.trunc (hM n mo e)⟩
    show (W.ι.take M2.length)[n]? = some a
    rw [List.getElem?_take_of_lt hn]; exact e1
  · exact h.nd.sublist (List.take_sublist _ _)
end
section
variable {K : PySem.W.Frag} {cl : Cl} {W : Wd} {k : Nat}
mutual
theorem Rep.bd (hk : W.ι.length ≤ k) : ∀ (d : D) (v : V), Rep K W d v → d.bd k = true
  | .non, _, _ => rfl
  | .emp, _, _ => rfl
  | .scr _, _, _ => rfl
  | .bl _, _, _ => rfl
  | .int _, _, _ => rfl
  | .str _, _, _ => rfl
  | .tup ds, _, ⟨a, vs, e, s, r⟩ => Reps.bd hk ds vs r
  | .lst ds, _, ⟨a, vs, e, s, r⟩ => Reps.bd hk ds vs r
  | .obj n, _, ⟨a, e, h⟩ => decide_eq_true (Nat.lt_of_lt_of_le (List.getElem?_eq_some_iff.mp h).1 hk)
theorem Reps.bd (hk : W.ι.length ≤ k) : ∀ (ds : List D) (vs : List V), Reps K W ds vs → bdL k ds = true
  | [], _, _ => rfl
  | d :: ds, _, ⟨v, r, e, h1, h2⟩ => Bool.and_eq_true_iff.mpr ⟨Rep.bd hk d v h1, Reps.bd hk ds r h2⟩
end
theorem Paired.all {α β : Type} {R : α → β → Prop} {p : α → Bool} : ∀ {l : List α} {m : List β}, Paired R l m → (∀ a b, R a b → p a = true) → l.all p = true
  | _, _, .nil, _ => rfl
  | _, _, .cons r t, f => by rw [List.all_cons, f _ _ r, Paired.all t f]; rfl
theorem HRel.bd {M : MS} {H : Hp} (h : HRel K cl W M H) : ∀ mo ∈ M, mo.bd M.length = true := fun mo hm => by
  obtain ⟨n, hn, e⟩ := List.mem_iff_getElem.mp hm
  obtain ⟨a, _, _, _, r⟩ := h.obj n mo (by rw [List.getElem?_eq_getElem hn, e])
  have hk : W.ι.length ≤ M.length := Nat.le_of_eq h.len
  cases mo with
  | lst ds => obtain ⟨vs, _, r⟩ := r; exact Reps.bd hk ds vs r
  | ins c fs => obtain ⟨dx, vs, _, r⟩ := r; exact Paired.all r fun p q z => Rep.bd hk _ _ z.2
  | dK kvs => obtain ⟨vs, _, r⟩ := r; exact Paired.all r fun p q z => Rep.bd hk _ _ z.2
  | dF kvs => obtain ⟨es, _, r⟩ := r; exact Paired.all r fun p q ⟨y0, y1, y2, u, y3, y4⟩ => Bool.and_eq_true_iff.mpr ⟨Rep.bd hk _ _ y2, Rep.bd hk _ _ y3⟩
  | gone => rfl
end
inductive Loc (k : Nat) (M' : MS) : D → D → Prop where
  | same {d : D} : d.bd k = true → Loc k M' d d
  | frz {n : Nat} {xs : List D} : k ≤ n → M'[n]? = some (.lst xs) → bdL k xs = true → Loc k M' (.obj n) (.lst xs)
section
variable {P : Program} {w : World} {K : PySem.W.Frag} {mg : Str → Option Value} {base : Heap} {cl : Cl}
theorem DefOk.loc {x : Str} {k n : Nat} {F F' : Fn} (h : DefOk P w K mg base cl x k n F)
    (i : ∀ ds M r M2, (∀ mo ∈ M, mo.bd M.length = true) → F' ds M = some (r, M2) → (∃ x, r = .error x ∧ F ds M = some (.error x, M2)) ∨ ∃ d' d junk, r = .ok d' ∧ F ds M = some (.ok d, M2 ++ junk) ∧ Loc M2.length (M2 ++ junk) d d' ∧ M.length ≤ M2.length ∧ ∀ (n : Nat) (mo : MO), M2[n]? = some mo → mo.bd M2.length = true) : DefOk P w K mg base cl x k n F' := by
  obtain ⟨f, fd, ps, a, b, c⟩ := h.ex
  refine ⟨f, fd, ps, a, b.imp fun vs H Q E ⟨a, ds, M, W, r, hH, hp⟩ => ⟨a, ds, M, W, r, hH, ?_⟩, c⟩
  cases e : F' ds M with
  | none => rw [e] at hp; exact hp.elim
  | some q =>
    rw [e] at hp
    obtain ⟨q, M2⟩ := q
    rcases i ds M q M2 hH.bd e with ⟨x, rfl, e2⟩ | ⟨d', d, junk, rfl, e2, lc, hl, hM⟩
    · rw [e2]; exact hp
    · rw [e2]
      intro W' H' v l rv hH'
      obtain ⟨l2, h2⟩ := hH.trunc l hH' hl hM
      cases lc with
      | same hb => exact hp _ H' v l2 (Rep.trunc _ _ hb rv) h2
      | @frz n xs hn hx hb =>
        obtain ⟨a, z, ea⟩ := rv
        obtain ⟨b, eb, gb, fb, vs, ho, q⟩ := hH'.obj n _ hx
        rw [ea] at eb
        have eb := Option.some.inj eb
        subst eb
        have ga := gb (fun z => nomatch z)
        -- the list at a is frozen
        have vle : (W'.cut M2.length).vle ⟨(W'.cut M2.length).ι, upd W'.G a (.lst vs), W'.F⟩ := ⟨fun _ _ e => e, fun b o e => by
          show upd W'.G a _ b = some o
          rw [upd_ne (ne_of_none (show W'.G b = some o from e) ga)]; exact e⟩
        have nin : ∀ m b, (W'.ι.take M2.length)[m]? = some b → b ≠ a := fun m b e z => by
          subst z
          have hm : m < M2.length := by
            have := (List.getElem?_eq_some_iff.mp e).1
            rw [List.length_take] at this
            omega
          rw [List.getElem?_take_of_lt hm] at e
          obtain ⟨h1, q1⟩ := List.getElem?_eq_some_iff.mp e
          obtain ⟨h2, q2⟩ := List.getElem?_eq_some_iff.mp ea
          have := (List.getElem_inj hH'.nd).mp (q1.trans q2.symm)
          omega
        refine hp ⟨(W'.cut M2.length).ι, upd W'.G a (.lst vs), W'.F⟩ H' v ⟨l2.i, fun b o e => vle.g b o (l2.g b o e), l2.f⟩ ⟨a, vs, z, Rd.of upd_same, Reps.upv (Reps.trunc xs vs hb q) vle⟩ ⟨fun b o e => ?_, h2.len, fun m mo em => ?_, h2.nd, fun b o e => ?_⟩
        · have e : upd W'.G a (.lst vs) b = some o := e
          by_cases q : b = a
          · subst q
            rw [upd_same] at e
            rw [← e]; exact ho
          · rw [upd_ne q] at e
            exact hH'.gle _ _ e
        · obtain ⟨b, e1, e2, e3, r⟩ := h2.obj m mo em
          have ne := nin m b e1
          refine ⟨b, e1, fun z => ?_, e3, r.upv vle⟩
          show upd W'.G a _ b = none
          rw [upd_ne ne]; exact e2 z
        · obtain ⟨h3, h4⟩ := hH'.fle b o e
          refine ⟨h3, ?_⟩
          show upd W'.G a _ b = none
          have ne : b ≠ a := fun z => by subst z; rw [fb] at e; cases e
          rw [upd_ne ne]; exact h4
theorem okD0 {x qual : Str} {params : Arguments} {body : List Stmt} {scope : Scope} {f : Addr} {fd : FuncData} {ps : List Str} {k : Nat} (Fd : FunD K x qual params body scope [] [] f fd) (gm : mg x = some (.ref f))
    (hb : ∀ (kV doc pm : Value) (an : Option Addr) (cdv ct : Value) (us : List Value), us.length = ps.length → bindArgs (PySem.W.fnOf x qual params body scope .none kV doc pm an cdv ct) ⟨us, []⟩ = pure (ps.zip us)) : DefOk P w K mg base cl x k ps.length (fun _ _ => none) :=
  ⟨f, fd, ps, rfl, ⟨fun _ _ _ _ h => h.1, fun _ _ _ _ _ _ _ _ _ _ _ _ _ ⟨_, _, _, _, _, _, hp⟩ => hp.elim⟩, gm, Fd.kp, Fd.bindsN hb⟩
end
open Classical in
/-- the objects that a def made for itself forgotten; its list, if it hands one back, frozen -/
noncomputable def truncF (F : Fn) : Fn := fun ds M => match F ds M with
  | some (.ok d, M') => if M.length ≤ M'.length ∧ (∀ mo ∈ M'.take M.length, mo ∈ M ∨ mo.bd M.length = true) then
      (if d.bd M.length = true then some (.ok d, M'.take M.length) else (match d with
      | .obj n => (match M'[n]? with
        | some (.lst xs) => if M.length ≤ n ∧ bdL M.length xs = true then some (.ok (.lst xs), M'.take M.length) else none
        | _ => none)
      | _ => none))
    else none
  | some (.error x, M') => some (.error x, M')
  | none => none
section
variable {P : Program} {w : World} {K : PySem.W.Frag} {mg : Str → Option Value} {base : Heap} {cl : Cl}
theorem DefOk.trunc {x : Str} {k n : Nat} {F : Fn} (h : DefOk P w K mg base cl x k n F) : DefOk P w K mg base cl x k n (truncF F) := h.loc fun ds M r M2 hb e => by
  unfold truncF at e
  cases q : F ds M with
  | none => rw [q] at e; cases e
  | some z =>
    obtain ⟨z, M'⟩ := z
    rw [q] at e
    cases z with
    | error x => cases e; exact .inl ⟨x, rfl, rfl⟩
    | ok d =>
      simp only at e
      split at e
      · rename_i c
        have lt : (M'.take M.length).length = M.length := by rw [List.length_take]; omega
        have hM : ∀ (n : Nat) (mo : MO), (M'.take M.length)[n]? = some mo → mo.bd (M'.take M.length).length = true := fun n mo en => by
          rw [lt]
          rcases c.2 mo (List.mem_of_getElem? en) with z | z
          · exact hb mo z
          · exact z
        have cat : M' = M'.take M.length ++ M'.drop M.length := (List.take_append_drop _ _).symm
        split at e
        · rename_i c2
          cases e
          exact .inr ⟨d, d, M'.drop M.length, rfl, by rw [← cat], .same (by rw [lt]; exact c2), by rw [lt]; exact Nat.le_refl _, hM⟩
        · split at e
          · rename_i m _
            split at e
            · rename_i xs hx
              split at e
              · rename_i c3
                cases e
                exact .inr ⟨.lst xs, .obj m, M'.drop M.length, rfl, by rw [← cat], .frz (by rw [lt]; exact c3.1) (by rw [← cat]; exact hx) (by rw [lt]; exact c3.2), by rw [lt]; exact Nat.le_refl _, hM⟩
              · cases e
            · cases e
          · cases e
      · cases e
/-- what a trimmed def makes -/
theorem truncF_same {F : Fn} {ds : List D} {M M2 junk : MS} {d : D} (h : F ds M = some (.ok d, M2 ++ junk)) (hl : M2.length = M.length) (hm : ∀ mo ∈ M2, mo ∈ M ∨ mo.bd M.length = true) (hd : d.bd M.length = true) : truncF F ds M = some (.ok d, M2) := by
  have ht : (M2 ++ junk).take M.length = M2 := by rw [← hl]; simp
  unfold truncF
  rw [h]
  simp only [ht, hd, if_true]
  rw [if_pos ⟨by rw [List.length_append]; omega, by rw [ht]; exact hm⟩]
theorem truncF_list {F : Fn} {ds : List D} {M M2 junk : MS} {n : Nat} {xs : List D} (h : F ds M = some (.ok (.obj n), M2 ++ junk)) (hl : M2.length = M.length) (hm : ∀ mo ∈ M2, mo ∈ M ∨ mo.bd M.length = true) (hn : M.length ≤ n) (hx : (M2 ++ junk)[n]? = some (.lst xs)) (hd : bdL M.length xs = true) : truncF F ds M = some (.ok (.lst xs), M2) := by
  have ht : (M2 ++ junk).take M.length = M2 := by rw [← hl]; simp
  have hb : ¬ (D.obj n).bd M.length = true := by
    show ¬ decide (n < M.length) = true
    simp; omega
  unfold truncF
  rw [h]
  simp only [ht, hx]
  rw [if_pos ⟨by rw [List.length_append]; omega, by rw [ht]; exact hm⟩, if_neg hb, if_pos ⟨hn, hd⟩]
end
end DL

/-! DL: what the pieces make, as rules for simp. -/
namespace DL
open PySem PySem.Spec PyProof.Rows L2
section
variable {α β : Type}
@[simp] theorem x_ret (a : α) (M : MS) : Mo.ret a M = some (.ok a, M) := rfl
@[simp] theorem x_stop (M : MS) : (Mo.stop : Mo α) M = none := rfl
@[simp] theorem x_opt (a : α) (M : MS) : Mo.opt (some a) M = some (.ok a, M) := rfl
theorem x_bnd {m : Mo α} {f : α → Mo β} {M M1 : MS} {a : α} (h : m M = some (.ok a, M1)) : Mo.bnd m f M = f a M1 := Mo.bnd_of h
@[simp] theorem x_bndret (a : α) (f : α → Mo β) : Mo.bnd (Mo.ret a) f = f a := rfl
@[simp] theorem x_bndopt (a : α) (f : α → Mo β) : Mo.bnd (Mo.opt (some a)) f = f a := rfl
@[simp] theorem x_assoc {γ : Type} (m : Mo α) (f : α → Mo β) (g : β → Mo γ) : Mo.bnd (Mo.bnd m f) g = Mo.bnd m fun a => Mo.bnd (f a) g := Mo.bnd_assoc m f g
theorem x_ite {c : Prop} [Decidable c] (a b : Mo α) (f : α → Mo β) : Mo.bnd (if c then a else b) f = if c then Mo.bnd a f else Mo.bnd b f := by split <;> rfl
end
section
variable {t : Rho → Mo Bool} {b : XS} {ρ ρ2 : Rho} {M M1 M2 : MS} {r : Except Ex Fl × MS}
theorem sWh_true (ht : t ρ M = some (.ok true, M1)) (hb : b ρ M1 = some (.ok (.nx ρ2), M2)) (h : sWh t b ρ2 M2 = some r) : sWh t b ρ M = some r := by
  refine sWh_step ?_
  rw [Mo.bnd_of ht]
  simp only [if_true]
  rw [Mo.bnd_of hb]
  exact h
theorem sWh_false (ht : t ρ M = some (.ok false, M1)) : sWh t b ρ M = some (.ok (.nx ρ), M1) := by
  refine sWh_step ?_
  rw [Mo.bnd_of ht]
  simp only [Bool.false_eq_true, if_false]
  rfl
end
/-! ### loops over fixed lists -/
section
variable {g : XG} {b : XS} {s : Src}
theorem chk_frz (xs : List D) (M : MS) : chk (.frz xs) M = some (.ok (), M) := by
  unfold chk
  rw [if_pos (show (Src.frz xs).ok M from trivial)]
theorem chk_ob {n : Nat} {xs : List D} {M : MS} (h : M[n]? = some (.lst xs)) : chk (.ob n xs) M = some (.ok (), M) := by
  unfold chk
  rw [if_pos (show (Src.ob n xs).ok M from h)]
@[simp] theorem x_chk (xs : List D) {α : Type} (f : Unit → Mo α) : Mo.bnd (chk (.frz xs)) f = f () := by
  funext M
  rw [Mo.bnd_of (chk_frz xs M)]
/-- a for over a fixed list by an invariant of the slots and the store -/
theorem loopF_inv {xs0 : List D} (P : Nat → Rho → MS → Prop) (step : ∀ (i : Nat) x ρ M, xs0[i]? = some x → P i ρ M → ∃ ρ1 M1 ρ2 M2, g x ρ M = some (.ok ρ1, M1) ∧ b ρ1 M1 = some (.ok (.nx ρ2), M2) ∧ P (i + 1) ρ2 M2) :
    ∀ (xs : List D) (i : Nat) (ρ : Rho) (M : MS), i ≤ xs0.length → xs0.drop i = xs → P i ρ M → ∃ ρ' M', loopF g b (.frz xs0) xs ρ M = some (.ok (.nx ρ'), M') ∧ P xs0.length ρ' M'
  | [], i, ρ, M, hi, hd, hP => by
    have : xs0.length ≤ i := by
      have := congrArg List.length hd
      simp at this; omega
    have e : i = xs0.length := by omega
    subst e
    exact ⟨ρ, M, rfl, hP⟩
  | x :: xs, i, ρ, M, hi, hd, hP => by
    have hx : xs0[i]? = some x := by
      have := congrArg (fun l => l[0]?) hd
      simpa using this
    obtain ⟨ρ1, M1, ρ2, M2, e1, e2, hP2⟩ := step i x ρ M hx hP
    have hd2 : xs0.drop (i + 1) = xs := by
      have := congrArg List.tail hd
      simpa [List.tail_drop] using this
    obtain ⟨ρ', M', e3, hP3⟩ := loopF_inv P step xs (i + 1) ρ2 M2 (by have := (List.getElem?_eq_some_iff.mp hx).1; omega) hd2 hP2
    refine ⟨ρ', M', ?_, hP3⟩
    show Mo.bnd (g x ρ) _ M = _
    rw [Mo.bnd_of e1]
    show Mo.bnd (b ρ1) _ M1 = _
    rw [Mo.bnd_of e2]
    simp only [x_chk]
    exact e3
end
/-! ### plain values -/
mutual
def plain : D → Bool
  | .obj _ => false
  | .scr _ => false
  | .tup xs => plains xs
  | .lst xs => plains xs
  | _ => true
def plains : List D → Bool
  | [] => true
  | d :: ds => plain d && plains ds
end
theorem plains_all : ∀ {ds : List D}, plains ds = true ↔ ∀ d ∈ ds, plain d = true
  | [] => by simp [plains]
  | d :: ds => by simp [plains, plains_all (ds := ds)]
theorem plains_app {ds es : List D} : plains (ds ++ es) = (plains ds && plains es) := by
  induction ds with
  | nil => simp [plains]
  | cons d ds ih => simp [plains, ih, Bool.and_assoc]
theorem isi_ok (T : Ty) {d : D} (h : plain d = true) (M : MS) : isiD T d M = some (.ok (.bl (isT T d)), M) := by
  cases d <;> first | rfl | (simp [plain] at h)
section
variable (T : Ty) (M : MS)
@[simp] theorem isi_int (i : Int) : isiD T (.int i) M = some (.ok (.bl (isT T (.int i))), M) := rfl
@[simp] theorem isi_bl (i : Bool) : isiD T (.bl i) M = some (.ok (.bl (isT T (.bl i))), M) := rfl
@[simp] theorem isi_str (i : Str) : isiD T (.str i) M = some (.ok (.bl (isT T (.str i))), M) := rfl
@[simp] theorem isi_non : isiD T .non M = some (.ok (.bl (isT T .non)), M) := rfl
@[simp] theorem isi_emp : isiD T .emp M = some (.ok (.bl (isT T .emp)), M) := rfl
@[simp] theorem isi_tup (xs : List D) : isiD T (.tup xs) M = some (.ok (.bl (isT T (.tup xs))), M) := rfl
@[simp] theorem isi_lst (xs : List D) : isiD T (.lst xs) M = some (.ok (.bl (isT T (.lst xs))), M) := rfl
end
@[simp] theorem eqvD_int (a b : Int) : eqvD (.int a) (.int b) = some (decide (a = b)) := rfl
@[simp] theorem eqvD_bl (a b : Bool) : eqvD (.bl a) (.bl b) = some (decide (a = b)) := by cases a <;> cases b <;> rfl
@[simp] theorem eqvD_str (a b : Str) : eqvD (.str a) (.str b) = some (decide (a = b)) := rfl
@[simp] theorem eqvD_blint (a : Bool) (b : Int) : eqvD (.bl a) (.int b) = some (decide ((if a then 1 else 0) = b)) := rfl
@[simp] theorem eqvD_intbl (a : Int) (b : Bool) : eqvD (.int a) (.bl b) = some (decide (a = (if b then 1 else 0))) := rfl
/-! ### comprehensions over fixed lists -/
section
variable {t : Rho → Mo Bool} {e : XE} {ρ0 : Rho} {i : Nat} {M : MS} {xs0 : List D}
theorem loopC_map {f : D → D} : ∀ (xs : List D), (∀ x ∈ xs, e (ρ0.set i (some x)) M = some (.ok (f x), M)) → loopC (.one i) tAll e (.frz xs0) ρ0 xs M = some (.ok (xs.map f), M)
  | [], _ => rfl
  | x :: xs, h => by
    show Mo.bnd (Mo.ret _) _ M = _
    simp only [x_bndret, tAll, if_true]
    rw [Mo.bnd_of (h x List.mem_cons_self)]
    simp only [x_chk]
    rw [Mo.bnd_of (loopC_map xs fun y hy => h y (List.mem_cons_of_mem _ hy))]
    rfl
theorem loopC_filter {f : D → D} {p : D → Bool} : ∀ (xs : List D), (∀ x ∈ xs, t (ρ0.set i (some x)) M = some (.ok (p x), M)) → (∀ x ∈ xs, p x = true → e (ρ0.set i (some x)) M = some (.ok (f x), M)) → loopC (.one i) t e (.frz xs0) ρ0 xs M = some (.ok ((xs.filter p).map f), M)
  | [], _, _ => rfl
  | x :: xs, h, h2 => by
    have ih := loopC_filter xs (fun y hy => h y (List.mem_cons_of_mem _ hy)) fun y hy => h2 y (List.mem_cons_of_mem _ hy)
    show Mo.bnd (Mo.ret _) _ M = _
    simp only [x_bndret]
    rw [Mo.bnd_of (h x List.mem_cons_self)]
    cases c : p x with
    | false =>
      simp only [Bool.false_eq_true, if_false, x_chk]
      rw [ih, List.filter_cons_of_neg (by rw [c]; exact Bool.false_ne_true)]
    | true =>
      simp only [if_true]
      rw [Mo.bnd_of (h2 x List.mem_cons_self c)]
      simp only [x_chk]
      rw [Mo.bnd_of ih, List.filter_cons_of_pos c]
      rfl
theorem eLc_of {it : Rho → Mo Src} {g : CT} {own : List Nat} {ρ : Rho} {M1 M2 : MS} {xs ys : List D} (h : it ρ M = some (.ok (.frz xs), M1)) (hz : fits xs.length = true) (hl : loopC g t e (.frz xs) (wipeR ρ own) xs M1 = some (.ok ys, M2)) : eLc it g t e own ρ M = some (.ok (.lst ys), M2) := by
  unfold eLc
  rw [Mo.bnd_of h]
  simp only [x_chk]
  have e2 : noex (if fits (Src.frz xs).xs.length = true then loopC g t e (.frz xs) (wipeR ρ own) (Src.frz xs).xs else Mo.stop) M1 = some (.ok ys, M2) := by
    unfold noex
    rw [if_pos (show fits (Src.frz xs).xs.length = true from hz)]
    rw [show loopC g t e (.frz xs) (wipeR ρ own) (Src.frz xs).xs M1 = _ from hl]
  rw [Mo.bnd_of e2]
  rfl
end
theorem fits_of {n : Nat} (h : n ≤ 1000000) : fits n = true := decide_eq_true (by rw [sizeLine_eq]; omega)
end DL

/-! DL: running pieces forwards: what must hold for a piece to end well. -/
namespace DL
open PySem PySem.Spec PyProof.Rows L2
def wq {α : Type} (m : Mo α) (M : MS) (Q : α → MS → Prop) : Prop := ∃ a M', m M = some (.ok a, M') ∧ Q a M'
section
variable {α β : Type} {M M1 : MS} {m : Mo α} {a : α} {f : α → Mo β}
theorem wq_mono {Q R : α → MS → Prop} (h : wq m M Q) (k : ∀ a M', Q a M' → R a M') : wq m M R := by
  obtain ⟨a, M', e, q⟩ := h
  exact ⟨a, M', e, k _ _ q⟩
theorem wq_bndE {Q : β → MS → Prop} : wq (Mo.bnd m f) M Q = wq m M fun a M' => wq (f a) M' Q := by
  refine propext ⟨fun ⟨b, M2, e, q⟩ => ?_, fun ⟨a, M1, e, b, M2, e2, q⟩ => ⟨b, M2, by rw [Mo.bnd_of e]; exact e2, q⟩⟩
  obtain ⟨a, M1, e1, e2⟩ := Mo.bnd_ok e
  exact ⟨a, M1, e1, b, M2, e2, q⟩
theorem wq_of {Q : α → MS → Prop} (h : m M = some (.ok a, M1)) : wq m M Q = Q a M1 :=
  propext ⟨fun ⟨b, M2, e, q⟩ => by rw [h] at e; cases e; exact q, fun q => ⟨a, M1, h, q⟩⟩
theorem wq_call {Q : α → MS → Prop} (h : m M = some (.ok a, M1)) (q : Q a M1) : wq m M Q := ⟨a, M1, h, q⟩
theorem wq_eq {Q : α → MS → Prop} (h : wq m M Q) : ∃ a M', m M = some (.ok a, M') ∧ Q a M' := h
theorem wq_val {d : α} (h : wq m M fun v M' => v = d ∧ M' = M1) : m M = some (.ok d, M1) := by
  obtain ⟨a, M', e, rfl, rfl⟩ := h
  exact e
end
section
variable {α β : Type} {M : MS}
theorem q_bnd {m : Mo α} {f : α → Mo β} {Q : β → MS → Prop} : wq (Mo.bnd m f) M Q = wq m M fun a M' => wq (f a) M' Q := wq_bndE
theorem q_ret {a : α} {Q : α → MS → Prop} : wq (Mo.ret a) M Q = Q a M := wq_of rfl
theorem q_opt {a : α} {Q : α → MS → Prop} : wq (Mo.opt (some a)) M Q = Q a M := wq_of rfl
theorem q_chk {xs : List D} {Q : Unit → MS → Prop} : wq (chk (.frz xs)) M Q = Q () M := wq_of (chk_frz xs M)
theorem q_chkob {n : Nat} {xs : List D} {Q : Unit → MS → Prop} : wq (chk (.ob n xs)) M Q = (M[n]? = some (.lst xs) ∧ Q () M) := by
  refine propext ⟨fun ⟨a, M1, e, q⟩ => ?_, fun ⟨h, q⟩ => ⟨(), M, chk_ob h, q⟩⟩
  unfold chk at e
  split at e
  · rename_i h; cases e; exact ⟨h, q⟩
  · cases e
theorem q_guard {p : MS → Bool} {Q : Unit → MS → Prop} : wq (guardB p) M Q = (p M = true ∧ Q () M) := by
  refine propext ⟨fun ⟨a, M1, e, q⟩ => ?_, fun ⟨h, q⟩ => ⟨(), M, by unfold guardB; rw [if_pos h], q⟩⟩
  unfold guardB at e
  split at e
  · rename_i h; cases e; exact ⟨h, q⟩
  · cases e
theorem q_noex {m : Mo α} {Q : α → MS → Prop} : wq (noex m) M Q = wq m M Q := by
  refine propext ⟨fun ⟨a, M1, e, q⟩ => ⟨a, M1, ?_, q⟩, fun ⟨a, M1, e, q⟩ => ⟨a, M1, by unfold noex; rw [e], q⟩⟩
  unfold noex at e
  split at e
  · cases e
  · exact e
theorem q_ite {c : Prop} [Decidable c] {x y : Mo α} {Q : α → MS → Prop} : wq (if c then x else y) M Q = if c then wq x M Q else wq y M Q := by split <;> rfl
theorem q_btrue {c : Bool} {x y : Mo α} {Q : α → MS → Prop} : wq (if c = true then x else y) M Q = if c = true then wq x M Q else wq y M Q := by split <;> rfl
theorem q_ifret {c : Prop} [Decidable c] {x : α} {Q : α → MS → Prop} : wq (if c then Mo.ret x else Mo.stop) M Q = (c ∧ Q x M) := by
  by_cases h : c
  · rw [if_pos h, q_ret]; simp [h]
  · rw [if_neg h]; exact propext ⟨fun ⟨_, _, e, _⟩ => (nomatch e), fun z => (h z.1).elim⟩
/-! ### pieces -/
variable {Q : D → MS → Prop} {QF : Fl → MS → Prop} {QB : Bool → MS → Prop} {QR : Rho → MS → Prop} {QL : List D → MS → Prop} {QO : Option Int → MS → Prop} {QS : Src → MS → Prop} {ρ : Rho}
theorem q_eV {i : Nat} : wq (eV i ρ) M Q = wq (Mo.opt (ρ[i]?.join)) M Q := rfl
theorem q_eC {d : D} : wq (eC d ρ) M Q = Q d M := wq_of rfl
theorem q_e1 {g : D → Mo D} {a : XE} : wq (e1 g a ρ) M Q = wq (a ρ) M fun x M1 => wq (g x) M1 Q := wq_bndE
theorem q_e2 {g : D → D → Mo D} {a b : XE} : wq (e2 g a b ρ) M Q = wq (a ρ) M fun x M1 => wq (b ρ) M1 fun y M2 => wq (g x y) M2 Q := by
  unfold e2; rw [wq_bndE]; simp only [wq_bndE]
theorem q_aLn : wq (aL [] ρ) M QL = QL [] M := wq_of rfl
theorem q_aLc {a : XE} {as : List XE} : wq (aL (a :: as) ρ) M QL = wq (a ρ) M fun x M1 => wq (aL as ρ) M1 fun xs M2 => QL (x :: xs) M2 := by
  show wq (Mo.bnd (a ρ) fun d => Mo.bnd (aL as ρ) fun ds => Mo.ret (d :: ds)) M QL = _
  rw [wq_bndE]; simp only [wq_bndE, q_ret]
theorem q_eTup {as : List XE} : wq (eTup as ρ) M Q = wq (aL as ρ) M fun ds M1 => Q (.tup ds) M1 := by
  unfold eTup; rw [wq_bndE]; simp only [q_ret]
theorem q_eLst {as : List XE} : wq (eLst as ρ) M Q = wq (aL as ρ) M fun ds M1 => Q (.lst ds) M1 := by
  unfold eLst; rw [wq_bndE]; simp only [q_ret]
theorem q_newO {mo : MO} : wq (newO mo) M Q = Q (.obj M.length) (M ++ [mo]) := wq_of rfl
theorem q_eLstM {as : List XE} : wq (eLstM as ρ) M Q = wq (aL as ρ) M fun ds M1 => Q (.obj M1.length) (M1 ++ [.lst ds]) := by
  unfold eLstM; rw [wq_bndE]; simp only [q_newO]
theorem q_eB {g : List D → Mo D} {as : List XE} : wq (eB g as ρ) M Q = wq (aL as ρ) M fun ds M1 => wq (g ds) M1 Q := wq_bndE
theorem q_tV {m : XE} : wq (tV m ρ) M QB = wq (m ρ) M fun d M1 => wq (bOf d) M1 QB := wq_bndE
theorem q_bOf {b : Bool} : wq (bOf (.bl b)) M QB = QB b M := wq_of rfl
theorem q_tAn {a b : Rho → Mo Bool} : wq (tAn a b ρ) M QB = wq (a ρ) M fun c M1 => if c = true then wq (b ρ) M1 QB else QB false M1 := by
  unfold tAn; rw [wq_bndE]; simp only [q_btrue, q_ret]
theorem q_tOrr {a b : Rho → Mo Bool} : wq (tOrr a b ρ) M QB = wq (a ρ) M fun c M1 => if c = true then QB true M1 else wq (b ρ) M1 QB := by
  unfold tOrr; rw [wq_bndE]; simp only [q_btrue, q_ret]
theorem q_tNo {a : Rho → Mo Bool} : wq (tNo a ρ) M QB = wq (a ρ) M fun c M1 => QB (!c) M1 := by
  unfold tNo; rw [wq_bndE]; simp only [q_ret]
theorem q_eIf {t : Rho → Mo Bool} {a b : XE} : wq (eIf t a b ρ) M Q = wq (t ρ) M fun c M1 => if c = true then wq (a ρ) M1 Q else wq (b ρ) M1 Q := by
  unfold eIf; rw [wq_bndE]; simp only [q_btrue]
theorem q_eAn {a b : XE} : wq (eAn a b ρ) M Q = wq (a ρ) M fun d M1 => wq (bOf d) M1 fun c M2 => if c = true then wq (b ρ) M2 Q else Q (.bl false) M2 := by
  unfold eAn; rw [wq_bndE]; simp only [wq_bndE, q_btrue, q_ret]
theorem q_eOrr {a b : XE} : wq (eOrr a b ρ) M Q = wq (a ρ) M fun d M1 => wq (bOf d) M1 fun c M2 => if c = true then Q (.bl true) M2 else wq (b ρ) M2 Q := by
  unfold eOrr; rw [wq_bndE]; simp only [wq_bndE, q_btrue, q_ret]
theorem q_eNo {a : XE} : wq (eNo a ρ) M Q = wq (a ρ) M fun d M1 => wq (bOf d) M1 fun c M2 => Q (.bl (!c)) M2 := by
  unfold eNo; rw [wq_bndE]; simp only [wq_bndE, q_ret]
theorem q_eCh {f g : D → D → Mo D} {a b c : XE} : wq (eCh f g a b c ρ) M Q = wq (a ρ) M fun x M1 => wq (b ρ) M1 fun y M2 => wq (f x y) M2 fun z M3 => wq (bOf z) M3 fun k M4 => if k = true then wq (c ρ) M4 fun u M5 => wq (g y u) M5 Q else Q (.bl false) M4 := by
  unfold eCh; rw [wq_bndE]; simp only [wq_bndE, q_btrue, q_ret]
theorem q_pNo : wq (pNo ρ) M QO = QO none M := wq_of rfl
theorem q_pSo {m : XE} : wq (pSo m ρ) M QO = wq (m ρ) M fun d M1 => match d with | .int i => QO (some i) M1 | _ => False := by
  unfold pSo; rw [wq_bndE]; congr 1; funext d M1; cases d <;> first | exact wq_of rfl | exact propext ⟨fun ⟨_, _, e, _⟩ => (nomatch e), fun z => False.elim z⟩
theorem q_eSl {a : XE} {lo hi : XP} : wq (eSl a lo hi ρ) M Q = wq (a ρ) M fun d M1 => wq (lo ρ) M1 fun l M2 => wq (hi ρ) M2 fun h M3 => wq (slD l h d) M3 Q := by
  unfold eSl; rw [wq_bndE]; simp only [wq_bndE]
theorem q_eLc {it : Rho → Mo Src} {g : CT} {t : Rho → Mo Bool} {e : XE} {own : List Nat} : wq (eLc it g t e own ρ) M Q = wq (it ρ) M fun s M1 => wq (chk s) M1 fun _ M2 => fits s.xs.length = true ∧ wq (loopC g t e s (wipeR ρ own) s.xs) M2 fun ys M3 => Q (.lst ys) M3 := by
  unfold eLc; rw [wq_bndE]; simp only [wq_bndE, q_noex, q_ret]
  congr 1; funext s M1; congr 1; funext _ M2
  by_cases c : fits s.xs.length = true
  · simp only [c, if_true, true_and]
  · rw [if_neg c]; exact propext ⟨fun ⟨_, _, e, _⟩ => (nomatch e), fun z => (c z.1).elim⟩
theorem q_iS {m : XE} : wq (iS m ρ) M QS = wq (m ρ) M fun d M1 => wq (srcD d) M1 QS := wq_bndE
theorem q_iR {ms : List XE} : wq (iR ms ρ) M QS = wq (aL ms ρ) M fun d M1 => wq (rngD d) M1 QS := wq_bndE
theorem q_eM {pre : MS → D → Bool} {g : D → List D → Mo D} {mo : XE} {ms : List XE} : wq (eM pre g mo ms ρ) M Q = wq (mo ρ) M fun o M1 => pre M1 o = true ∧ wq (aL ms ρ) M1 fun ds M2 => wq (g o ds) M2 Q := by
  unfold eM; rw [wq_bndE]; simp only [wq_bndE, q_guard]
theorem q_sNext : wq (sNext ρ) M QF = QF (.nx ρ) M := wq_of rfl
theorem q_seqnx {b : XS} : wq (seqK b (.nx ρ)) M QF = wq (b ρ) M QF := rfl
theorem q_seqrt {b : XS} {d : D} : wq (seqK b (.rt d)) M QF = QF (.rt d) M := wq_of rfl
theorem q_seqbk {b : XS} : wq (seqK b (.bk ρ)) M QF = QF (.bk ρ) M := wq_of rfl
theorem q_seqct {b : XS} : wq (seqK b (.ct ρ)) M QF = QF (.ct ρ) M := wq_of rfl
theorem q_sSeq {a b : XS} : wq (sSeq a b ρ) M QF = wq (a ρ) M fun r M1 => wq (seqK b r) M1 QF := wq_bndE
theorem q_sIf {t : Rho → Mo Bool} {a b : XS} : wq (sIf t a b ρ) M QF = wq (t ρ) M fun c M1 => if c = true then wq (a ρ) M1 QF else wq (b ρ) M1 QF := by
  unfold sIf; rw [wq_bndE]; simp only [q_btrue]
theorem q_sRet {m : XE} : wq (sRet m ρ) M QF = wq (m ρ) M fun d M1 => QF (.rt d) M1 := by
  unfold sRet; rw [wq_bndE]; simp only [q_ret]
theorem q_sRetN : wq (sRetN ρ) M QF = QF (.rt .non) M := wq_of rfl
theorem q_sBrk : wq (sBrk ρ) M QF = QF (.bk ρ) M := wq_of rfl
theorem q_sCnt : wq (sCnt ρ) M QF = QF (.ct ρ) M := wq_of rfl
theorem q_sExpr {m : XE} : wq (sExpr m ρ) M QF = wq (m ρ) M fun _ M1 => QF (.nx ρ) M1 := by
  unfold sExpr; rw [wq_bndE]; simp only [q_ret]
theorem q_gN {i : Nat} {d : D} : wq (gN i d ρ) M QR = QR (ρ.set i (some d)) M := wq_of rfl
theorem q_gAn : wq (gA [] [] ρ) M QR = QR ρ M := wq_of rfl
theorem q_gAc {g : XG} {gs : List XG} {d : D} {ds : List D} : wq (gA (g :: gs) (d :: ds) ρ) M QR = wq (g d ρ) M fun r M1 => wq (gA gs ds r) M1 QR := wq_bndE
theorem q_gT {gs : List XG} {ds : List D} : wq (gT gs (.tup ds) ρ) M QR = (ds.length = gs.length ∧ wq (gA gs ds ρ) M QR) := by
  unfold gT
  by_cases c : ds.length = gs.length
  · simp only [c, if_true, true_and]
  · simp only [c, if_false, false_and]; exact propext ⟨fun ⟨_, _, e, _⟩ => (nomatch e), fun z => False.elim z⟩
theorem q_gS {o i : XE} {v : D} : wq (gS o i v ρ) M QR = wq (o ρ) M fun od M1 => wq (i ρ) M1 fun id M2 => wq (setD od id v) M2 fun _ M3 => QR ρ M3 := by
  unfold gS; rw [wq_bndE]; simp only [wq_bndE, q_ret]
theorem q_sAsg {m : XE} {g : XG} : wq (sAsg m g ρ) M QF = wq (m ρ) M fun d M1 => wq (g d ρ) M1 fun r M2 => QF (.nx r) M2 := by
  unfold sAsg; rw [wq_bndE]; simp only [wq_bndE, q_ret]
theorem q_sPar {i j : Nat} {a b : XE} : wq (sPar i j a b ρ) M QF = wq (a ρ) M fun x M1 => wq (b ρ) M1 fun y M2 => QF (.nx ((ρ.set i (some x)).set j (some y))) M2 := by
  unfold sPar; rw [wq_bndE]; simp only [q_aLc, q_aLn, q_ret]
theorem q_sFor {it : Rho → Mo Src} {g : XG} {b : XS} : wq (sFor it g b ρ) M QF = wq (it ρ) M fun s M1 => wq (chk s) M1 fun _ M2 => wq (loopF g b s s.xs ρ) M2 QF := by
  unfold sFor; rw [wq_bndE]; simp only [wq_bndE]
theorem q_fnB {n : Nat} {body : XS} {ds : List D} : wq (fnB n body ds) M Q = wq (body (ds.map some ++ List.replicate (n - ds.length) none)) M fun r M1 => wq (fnK r) M1 Q := wq_bndE
theorem q_fnrt {d : D} : wq (fnK (.rt d)) M Q = Q d M := wq_of rfl
theorem q_fnnx : wq (fnK (.nx ρ)) M Q = Q .non M := wq_of rfl
end
/-! ### loops -/
section
variable {M : MS} {g : XG} {b : XS} {s : Src} {QF : Fl → MS → Prop}
theorem wq_loopF (I : List D → Rho → MS → Prop) (fin : ∀ ρ M, I [] ρ M → QF (.nx ρ) M)
    (step : ∀ x rest ρ M, I (x :: rest) ρ M → wq (g x ρ) M fun ρ1 M1 => wq (b ρ1) M1 fun fl M2 => match fl with
      | .nx ρ2 => wq (chk s) M2 fun _ M3 => I rest ρ2 M3
      | .ct ρ2 => wq (chk s) M2 fun _ M3 => I rest ρ2 M3
      | .bk ρ2 => QF (.nx ρ2) M2
      | .rt d => QF (.rt d) M2) : ∀ (xs : List D) (ρ : Rho) (M : MS), I xs ρ M → wq (loopF g b s xs ρ) M QF
  | [], ρ, M, h => ⟨_, _, rfl, fin ρ M h⟩
  | x :: xs, ρ, M, h => by
    have hs := step x xs ρ M h
    have e : wq (loopF g b s (x :: xs) ρ) M QF = wq (g x ρ) M fun ρ1 M1 => wq (b ρ1) M1 fun fl M2 => wq (match fl with
      | .nx ρ2 => Mo.bnd (chk s) fun _ => loopF g b s xs ρ2
      | .ct ρ2 => Mo.bnd (chk s) fun _ => loopF g b s xs ρ2
      | .bk ρ2 => Mo.ret (.nx ρ2)
      | .rt d => Mo.ret (.rt d) : Mo Fl) M2 QF := by
      show wq (Mo.bnd _ _) M QF = _
      rw [wq_bndE]; congr 1; funext ρ1 M1; rw [wq_bndE]; try rfl
    rw [e]
    refine wq_mono hs fun ρ1 M1 h1 => wq_mono h1 fun fl M2 h2 => ?_
    cases fl with
    | nx ρ2 => simp only [wq_bndE]; exact wq_mono h2 fun _ M3 h3 => wq_loopF I fin step xs ρ2 M3 h3
    | ct ρ2 => simp only [wq_bndE]; exact wq_mono h2 fun _ M3 h3 => wq_loopF I fin step xs ρ2 M3 h3
    | bk ρ2 => exact ⟨_, _, rfl, h2⟩
    | rt d => exact ⟨_, _, rfl, h2⟩
variable {ct : CT} {t : Rho → Mo Bool} {e : XE} {ρ0 : Rho} {QL : List D → MS → Prop}
theorem wq_loopC (I : List D → List D → MS → Prop)
    (step : ∀ x rest acc M, I (x :: rest) acc M → wq (ct.put x ρ0) M fun ρ1 M1 => wq (t ρ1) M1 fun c M2 => if c = true then wq (e ρ1) M2 fun y M3 => wq (chk s) M3 fun _ M4 => I rest (acc ++ [y]) M4 else wq (chk s) M2 fun _ M4 => I rest acc M4) :
    ∀ (xs acc : List D) (M : MS) (QL : List D → MS → Prop), I xs acc M → (∀ ys M, I [] (acc ++ ys) M → QL ys M) → wq (loopC ct t e s ρ0 xs) M QL
  | [], acc, M, QL, h, fin => ⟨[], M, rfl, fin [] M (by rw [List.append_nil]; exact h)⟩
  | x :: xs, acc, M, QL, h, fin => by
    have hs := step x xs acc M h
    show wq (Mo.bnd _ _) M QL
    rw [wq_bndE]
    refine wq_mono hs fun ρ1 M1 h1 => ?_
    rw [wq_bndE]
    refine wq_mono h1 fun c M2 h2 => ?_
    cases c with
    | true =>
      simp only [if_true, wq_bndE] at h2 ⊢
      refine wq_mono h2 fun y M3 h3 => wq_mono h3 fun _ M4 h4 => wq_loopC I step xs _ M4 _ h4 fun ys M5 h5 => ⟨_, _, rfl, fin _ _ (by rw [List.append_assoc] at h5; exact h5)⟩
    | false =>
      simp only [Bool.false_eq_true, if_false, wq_bndE] at h2 ⊢
      exact wq_mono h2 fun _ M4 h4 => wq_loopC I step xs _ M4 _ h4 fin
theorem q_put1 {i : Nat} {d : D} {QR : Rho → MS → Prop} : wq (CT.put (.one i) d ρ0) M QR = QR (ρ0.set i (some d)) M := wq_of rfl
theorem q_putT {is : List Nat} {ds : List D} {QR : Rho → MS → Prop} : wq (CT.put (.tup is) (.tup ds) ρ0) M QR = (ds.length = is.length ∧ QR (setAll is ds ρ0) M) := by
  unfold CT.put
  by_cases c : ds.length = is.length
  · simp only [c, if_true, true_and]; exact wq_of rfl
  · simp only [c, if_false, false_and]; exact propext ⟨fun ⟨_, _, e, _⟩ => (nomatch e), fun z => False.elim z⟩
theorem q_tAll {ρ : Rho} {QB : Bool → MS → Prop} : wq (tAll ρ) M QB = QB true M := wq_of rfl
/-- a while, by a measure -/
theorem wq_sWh {t : Rho → Mo Bool} {b : XS} (I : Nat → Rho → MS → Prop)
    (step : ∀ n ρ M, I n ρ M → wq (t ρ) M fun c M1 => if c = true then wq (b ρ) M1 fun fl M2 => match fl with
        | .nx ρ2 => ∃ k, k < n ∧ I k ρ2 M2
        | .ct ρ2 => ∃ k, k < n ∧ I k ρ2 M2
        | .bk ρ2 => QF (.nx ρ2) M2
        | .rt d => QF (.rt d) M2
      else QF (.nx ρ) M1) : ∀ (n : Nat) (ρ : Rho) (M : MS), I n ρ M → wq (sWh t b ρ) M QF := by
  intro n
  induction n using Nat.strongRecOn with
  | ind n ih =>
    intro ρ M h
    obtain ⟨c, M1, e1, h1⟩ := step n ρ M h
    cases c with
    | false =>
      simp only [Bool.false_eq_true, if_false] at h1
      exact ⟨_, _, sWh_false e1, h1⟩
    | true =>
      simp only [if_true] at h1
      obtain ⟨fl, M2, e2, h2⟩ := h1
      have key : ∀ r, (match fl with
        | .nx ρ2 => sWh t b ρ2
        | .ct ρ2 => sWh t b ρ2
        | .bk ρ2 => Mo.ret (.nx ρ2)
        | .rt d => Mo.ret (.rt d) : Mo Fl) M2 = some r → sWh t b ρ M = some r := fun r hr => sWh_step (by
        rw [Mo.bnd_of e1]
        simp only [if_true]
        rw [Mo.bnd_of e2]
        exact hr)
      cases fl with
      | nx ρ2 => obtain ⟨k, hk, hI⟩ := h2; obtain ⟨r, M3, e3, q⟩ := ih k hk ρ2 M2 hI; exact ⟨r, M3, key _ e3, q⟩
      | ct ρ2 => obtain ⟨k, hk, hI⟩ := h2; obtain ⟨r, M3, e3, q⟩ := ih k hk ρ2 M2 hI; exact ⟨r, M3, key _ e3, q⟩
      | bk ρ2 => exact ⟨_, _, key _ rfl, h2⟩
      | rt d => exact ⟨_, _, key _ rfl, h2⟩
end
/-! ### operations -/
section
variable {M : MS} {Q : D → MS → Prop} {QS : Src → MS → Prop} {i j : Int}
theorem q_add : wq (addD (.int i) (.int j)) M Q = Q (.int (i + j)) M := wq_of rfl
theorem q_addS {x y : Str} : wq (addD (.str x) (.str y)) M Q = (fits (x.length + y.length) = true ∧ Q (.str (x ++ y)) M) := q_ifret
theorem q_addT {x y : List D} : wq (addD (.tup x) (.tup y)) M Q = (fits (x.length + y.length) = true ∧ Q (.tup (x ++ y)) M) := q_ifret
theorem q_addL {x y : List D} : wq (addD (.lst x) (.lst y)) M Q = (fits (x.length + y.length) = true ∧ Q (.lst (x ++ y)) M) := by
  refine propext ⟨fun ⟨a, M1, e, q⟩ => ?_, fun ⟨h, q⟩ => ⟨_, _, by unfold addD catL; simp only [lstOf]; rw [if_pos h], q⟩⟩
  unfold addD catL at e; simp only [lstOf] at e
  split at e
  · rename_i h; cases e; exact ⟨h, q⟩
  · cases e
theorem q_sub : wq (subD (.int i) (.int j)) M Q = Q (.int (i - j)) M := wq_of rfl
theorem q_mul : wq (mulD (.int i) (.int j)) M Q = (mulOk i j = true ∧ Q (.int (i * j)) M) := q_ifret
theorem q_fdiv : wq (fdivD (.int i) (.int j)) M Q = (divOk j = true ∧ Q (.int (i / j)) M) := q_ifret
theorem q_mod : wq (modD (.int i) (.int j)) M Q = (0 < j ∧ Q (.int (i % j)) M) := q_ifret
theorem q_neg : wq (negD (.int i)) M Q = Q (.int (-i)) M := wq_of rfl
theorem q_lt : wq (ltD (.int i) (.int j)) M Q = Q (.bl (decide (i < j))) M := wq_of rfl
theorem q_le : wq (leD (.int i) (.int j)) M Q = Q (.bl (decide (i ≤ j))) M := wq_of rfl
theorem q_gt : wq (gtD (.int i) (.int j)) M Q = Q (.bl (decide (j < i))) M := wq_of rfl
theorem q_ge : wq (geD (.int i) (.int j)) M Q = Q (.bl (decide (j ≤ i))) M := wq_of rfl
theorem q_eq {d e : D} : wq (eqD d e) M Q = wq (Mo.opt ((eqvD d e).map D.bl)) M Q := rfl
theorem q_ne {d e : D} : wq (neD d e) M Q = wq (Mo.opt ((eqvD d e).map fun b => D.bl (!b))) M Q := rfl
theorem q_isN {d : D} : wq (isND d .non) M Q = Q (.bl (isNonB d)) M := wq_of rfl
theorem q_isntN {d : D} : wq (isntND d .non) M Q = Q (.bl (!isNonB d)) M := wq_of rfl
theorem q_ixT {xs : List D} : wq (ixD (.tup xs) (.int i)) M Q = wq (Mo.opt (atI xs i)) M Q := by
  have : ixD (.tup xs) (.int i) M = Mo.opt (atI xs i) M := by
    unfold ixD Mo.opt; simp only [seqOf]; cases atI xs i <;> rfl
  unfold wq; rw [this]
theorem q_ixL {xs : List D} : wq (ixD (.lst xs) (.int i)) M Q = wq (Mo.opt (atI xs i)) M Q := by
  have : ixD (.lst xs) (.int i) M = Mo.opt (atI xs i) M := by
    unfold ixD Mo.opt; simp only [seqOf, lstOf]; cases atI xs i <;> rfl
  unfold wq; rw [this]
theorem q_lenT {xs : List D} : wq (lenD [.tup xs]) M Q = Q (.int xs.length) M := wq_of rfl
theorem q_lenL {xs : List D} : wq (lenD [.lst xs]) M Q = Q (.int xs.length) M := wq_of rfl
theorem q_lenS {z : Str} : wq (lenD [.str z]) M Q = (fits z.length = true ∧ Q (.int z.length) M) := by
  refine propext ⟨fun ⟨a, M1, e, q⟩ => ?_, fun ⟨h, q⟩ => ⟨_, _, by unfold lenD; simp only; rw [if_pos h], q⟩⟩
  unfold lenD at e; simp only at e
  split at e
  · rename_i h; cases e; exact ⟨h, q⟩
  · cases e
theorem q_lenO {n : Nat} {xs : List D} (h : M[n]? = some (.lst xs)) : wq (lenD [.obj n]) M Q = Q (.int xs.length) M := wq_of (by unfold lenD; simp only [seqOf, lstOf, h])
theorem q_abs : wq (absD [.int i]) M Q = Q (.int (i.natAbs : Int)) M := wq_of rfl
theorem q_int : wq (DL.intD [.int i]) M Q = Q (.int i) M := wq_of rfl
theorem q_listT {xs : List D} : wq (listD [.tup xs]) M Q = Q (.lst xs) M := wq_of rfl
theorem q_listL {xs : List D} : wq (listD [.lst xs]) M Q = Q (.lst xs) M := wq_of rfl
theorem q_listS {ns : List Int} : wq (listD [.scr ns]) M Q = Q (.lst (ns.map D.int)) M := wq_of rfl
theorem q_tupT {xs : List D} : wq (tupleD [.tup xs]) M Q = Q (.tup xs) M := wq_of rfl
theorem q_tupL {xs : List D} : wq (tupleD [.lst xs]) M Q = Q (.tup xs) M := wq_of rfl
theorem q_allL {xs : List D} {bs : List Bool} (h : blsOf xs = some bs) : wq (allD [.lst xs]) M Q = Q (.bl (bs.all id)) M := wq_of (by unfold allD; simp only [lstOf, Option.bind, h])
theorem q_sumL {xs : List D} {bs : List Int} (h : intsOf xs = some bs) : wq (sumD [.lst xs]) M Q = Q (.int bs.sum) M := wq_of (by unfold sumD; simp only [lstOf, Option.bind, h])
theorem q_revT {xs : List D} : wq (revD (.tup xs)) M Q = Q (.tup xs.reverse) M := wq_of rfl
theorem q_revL {xs : List D} : wq (revD (.lst xs)) M Q = Q (.lst xs.reverse) M := wq_of rfl
theorem q_slT {xs : List D} {l h : Option Int} : wq (slD l h (.tup xs)) M Q = Q (.tup (cut xs l h)) M := wq_of rfl
theorem q_slL {xs : List D} {l h : Option Int} : wq (slD l h (.lst xs)) M Q = Q (.lst (cut xs l h)) M := wq_of rfl
theorem q_slS {xs : List Int} {l h : Option Int} : wq (slD l h (.scr xs)) M Q = Q (.lst ((cut xs l h).map D.int)) M := wq_of rfl
theorem q_rng1 : wq (rngD [.int j]) M QS = (small62 j = true ∧ QS (.frz (rngL 0 j)) M) := q_ifret
theorem q_rng2 : wq (rngD [.int i, .int j]) M QS = ((small62 i && small62 j) = true ∧ QS (.frz (rngL i j)) M) := q_ifret
theorem q_srcT {xs : List D} : wq (srcD (.tup xs)) M QS = QS (.frz xs) M := wq_of rfl
theorem q_srcL {xs : List D} : wq (srcD (.lst xs)) M QS = QS (.frz xs) M := wq_of rfl
theorem q_srcS {ns : List Int} : wq (srcD (.scr ns)) M QS = QS (.frz (ns.map D.int)) M := wq_of rfl
theorem q_isi {T : Ty} {d : D} (h : DL.plain d = true) : wq (isiD T d) M Q = Q (.bl (isT T d)) M := wq_of (isi_ok T h M)
theorem q_isiI {T : Ty} {i : Int} : wq (isiD T (.int i)) M Q = Q (.bl (isT T (.int i))) M := wq_of rfl
theorem q_isiB {T : Ty} {i : Bool} : wq (isiD T (.bl i)) M Q = Q (.bl (isT T (.bl i))) M := wq_of rfl
theorem q_isiT {T : Ty} {i : List D} : wq (isiD T (.tup i)) M Q = Q (.bl (isT T (.tup i))) M := wq_of rfl
theorem q_isiL {T : Ty} {i : List D} : wq (isiD T (.lst i)) M Q = Q (.bl (isT T (.lst i))) M := wq_of rfl
theorem q_isiS {T : Ty} {i : Str} : wq (isiD T (.str i)) M Q = Q (.bl (isT T (.str i))) M := wq_of rfl
theorem q_isiN {T : Ty} : wq (isiD T .non) M Q = Q (.bl (isT T .non)) M := wq_of rfl
theorem q_isiE {T : Ty} : wq (isiD T .emp) M Q = Q (.bl (isT T .emp)) M := wq_of rfl
@[simp] theorem frz_xs {xs : List D} : (Src.frz xs).xs = xs := rfl
@[simp] theorem ob_xs {n : Nat} {xs : List D} : (Src.ob n xs).xs = xs := rfl
@[simp] theorem rngL_nat (n : Nat) : rngL 0 (n : Int) = (List.range n).map fun (i : Nat) => D.int i := by unfold rngL; simp
@[simp] theorem wipe_nil {ρ : Rho} : wipeR ρ [] = ρ := rfl
@[simp] theorem wipe_cons {ρ : Rho} {v : Nat} {vs : List Nat} : wipeR ρ (v :: vs) = (wipeR ρ vs).set v none := rfl
end
/-- a mark, so that simp leaves what comes after alone -/
inductive Tg {α : Type} (Q : α → MS → Prop) : Type where
  | mk
def wp {α : Type} (m : Mo α) (M : MS) (Q : α → MS → Prop) (_t : Tg Q := .mk) : Prop := wq m M Q
section
variable {α β : Type} {M M1 : MS} {m : Mo α} {a : α} {f : α → Mo β}
theorem wp_mono {Q R : α → MS → Prop} (h : wp m M Q) (k : ∀ a M', Q a M' → R a M') : wp m M R := wq_mono h k
theorem wp_bndE {Q : β → MS → Prop} : wp (Mo.bnd m f) M Q = wp m M fun a M' => wp (f a) M' Q := wq_bndE
theorem wp_of {Q : α → MS → Prop} (h : m M = some (.ok a, M1)) : wp m M Q = Q a M1 := wq_of h
theorem wp_call {Q : α → MS → Prop} (h : m M = some (.ok a, M1)) (q : Q a M1) : wp m M Q := wq_call h q
theorem wp_eq {Q : α → MS → Prop} (h : wp m M Q) : ∃ a M', m M = some (.ok a, M') ∧ Q a M' := wq_eq h
theorem wp_val {d : α} (h : wp m M fun v M' => v = d ∧ M' = M1) : m M = some (.ok d, M1) := wq_val h
end
section
variable {α β : Type} {M : MS}
@[simp ↓] theorem w_bnd {m : Mo α} {f : α → Mo β} {Q : β → MS → Prop} : wp (Mo.bnd m f) M Q = wp m M fun a M' => wp (f a) M' Q := q_bnd
@[simp ↓] theorem w_ret {a : α} {Q : α → MS → Prop} : wp (Mo.ret a) M Q = Q a M := q_ret
@[simp ↓] theorem w_opt {a : α} {Q : α → MS → Prop} : wp (Mo.opt (some a)) M Q = Q a M := q_opt
@[simp ↓] theorem w_chk {xs : List D} {Q : Unit → MS → Prop} : wp (chk (.frz xs)) M Q = Q () M := q_chk
@[simp ↓] theorem w_chkob {n : Nat} {xs : List D} {Q : Unit → MS → Prop} : wp (chk (.ob n xs)) M Q = (M[n]? = some (.lst xs) ∧ Q () M) := q_chkob
@[simp ↓] theorem w_guard {p : MS → Bool} {Q : Unit → MS → Prop} : wp (guardB p) M Q = (p M = true ∧ Q () M) := q_guard
@[simp ↓] theorem w_noex {m : Mo α} {Q : α → MS → Prop} : wp (noex m) M Q = wp m M Q := q_noex
theorem w_ite {c : Prop} [Decidable c] {x y : Mo α} {Q : α → MS → Prop} : wp (if c then x else y) M Q = if c then wp x M Q else wp y M Q := q_ite
@[simp ↓] theorem w_btrue {c : Bool} {x y : Mo α} {Q : α → MS → Prop} : wp (if c = true then x else y) M Q = if c = true then wp x M Q else wp y M Q := q_btrue
@[simp ↓] theorem w_ifret {c : Prop} [Decidable c] {x : α} {Q : α → MS → Prop} : wp (if c then Mo.ret x else Mo.stop) M Q = (c ∧ Q x M) := q_ifret
/-! ### pieces -/
variable {Q : D → MS → Prop} {QF : Fl → MS → Prop} {QB : Bool → MS → Prop} {QR : Rho → MS → Prop} {QL : List D → MS → Prop} {QO : Option Int → MS → Prop} {QS : Src → MS → Prop} {ρ : Rho}
@[simp ↓] theorem w_eV {i : Nat} : wp (eV i ρ) M Q = wp (Mo.opt (ρ[i]?.join)) M Q := q_eV
@[simp ↓] theorem w_eC {d : D} : wp (eC d ρ) M Q = Q d M := q_eC
@[simp ↓] theorem w_e1 {g : D → Mo D} {a : XE} : wp (e1 g a ρ) M Q = wp (a ρ) M fun x M1 => wp (g x) M1 Q := q_e1
@[simp ↓] theorem w_e2 {g : D → D → Mo D} {a b : XE} : wp (e2 g a b ρ) M Q = wp (a ρ) M fun x M1 => wp (b ρ) M1 fun y M2 => wp (g x y) M2 Q := q_e2
@[simp ↓] theorem w_aLn : wp (aL [] ρ) M QL = QL [] M := q_aLn
@[simp ↓] theorem w_aLc {a : XE} {as : List XE} : wp (aL (a :: as) ρ) M QL = wp (a ρ) M fun x M1 => wp (aL as ρ) M1 fun xs M2 => QL (x :: xs) M2 := q_aLc
@[simp ↓] theorem w_eTup {as : List XE} : wp (eTup as ρ) M Q = wp (aL as ρ) M fun ds M1 => Q (.tup ds) M1 := q_eTup
@[simp ↓] theorem w_eLst {as : List XE} : wp (eLst as ρ) M Q = wp (aL as ρ) M fun ds M1 => Q (.lst ds) M1 := q_eLst
@[simp ↓] theorem w_newO {mo : MO} : wp (newO mo) M Q = Q (.obj M.length) (M ++ [mo]) := q_newO
@[simp ↓] theorem w_eLstM {as : List XE} : wp (eLstM as ρ) M Q = wp (aL as ρ) M fun ds M1 => Q (.obj M1.length) (M1 ++ [.lst ds]) := q_eLstM
@[simp ↓] theorem w_eB {g : List D → Mo D} {as : List XE} : wp (eB g as ρ) M Q = wp (aL as ρ) M fun ds M1 => wp (g ds) M1 Q := q_eB
@[simp ↓] theorem w_tV {m : XE} : wp (tV m ρ) M QB = wp (m ρ) M fun d M1 => wp (bOf d) M1 QB := q_tV
@[simp ↓] theorem w_bOf {b : Bool} : wp (bOf (.bl b)) M QB = QB b M := q_bOf
@[simp ↓] theorem w_tAn {a b : Rho → Mo Bool} : wp (tAn a b ρ) M QB = wp (a ρ) M fun c M1 => if c = true then wp (b ρ) M1 QB else QB false M1 := q_tAn
@[simp ↓] theorem w_tOrr {a b : Rho → Mo Bool} : wp (tOrr a b ρ) M QB = wp (a ρ) M fun c M1 => if c = true then QB true M1 else wp (b ρ) M1 QB := q_tOrr
@[simp ↓] theorem w_tNo {a : Rho → Mo Bool} : wp (tNo a ρ) M QB = wp (a ρ) M fun c M1 => QB (!c) M1 := q_tNo
@[simp ↓] theorem w_eIf {t : Rho → Mo Bool} {a b : XE} : wp (eIf t a b ρ) M Q = wp (t ρ) M fun c M1 => if c = true then wp (a ρ) M1 Q else wp (b ρ) M1 Q := q_eIf
@[simp ↓] theorem w_eAn {a b : XE} : wp (eAn a b ρ) M Q = wp (a ρ) M fun d M1 => wp (bOf d) M1 fun c M2 => if c = true then wp (b ρ) M2 Q else Q (.bl false) M2 := q_eAn
@[simp ↓] theorem w_eOrr {a b : XE} : wp (eOrr a b ρ) M Q = wp (a ρ) M fun d M1 => wp (bOf d) M1 fun c M2 => if c = true then Q (.bl true) M2 else wp (b ρ) M2 Q := q_eOrr
@[simp ↓] theorem w_eNo {a : XE} : wp (eNo a ρ) M Q = wp (a ρ) M fun d M1 => wp (bOf d) M1 fun c M2 => Q (.bl (!c)) M2 := q_eNo
@[simp ↓] theorem w_eCh {f g : D → D → Mo D} {a b c : XE} : wp (eCh f g a b c ρ) M Q = wp (a ρ) M fun x M1 => wp (b ρ) M1 fun y M2 => wp (f x y) M2 fun z M3 => wp (bOf z) M3 fun k M4 => if k = true then wp (c ρ) M4 fun u M5 => wp (g y u) M5 Q else Q (.bl false) M4 := q_eCh
@[simp ↓] theorem w_pNo : wp (pNo ρ) M QO = QO none M := q_pNo
@[simp ↓] theorem w_pSo {m : XE} : wp (pSo m ρ) M QO = wp (m ρ) M fun d M1 => match d with | .int i => QO (some i) M1 | _ => False := q_pSo
@[simp ↓] theorem w_eSl {a : XE} {lo hi : XP} : wp (eSl a lo hi ρ) M Q = wp (a ρ) M fun d M1 => wp (lo ρ) M1 fun l M2 => wp (hi ρ) M2 fun h M3 => wp (slD l h d) M3 Q := q_eSl
@[simp ↓] theorem w_eLc {it : Rho → Mo Src} {g : CT} {t : Rho → Mo Bool} {e : XE} {own : List Nat} : wp (eLc it g t e own ρ) M Q = wp (it ρ) M fun s M1 => wp (chk s) M1 fun _ M2 => fits s.xs.length = true ∧ wp (loopC g t e s (wipeR ρ own) s.xs) M2 fun ys M3 => Q (.lst ys) M3 := q_eLc
@[simp ↓] theorem w_iS {m : XE} : wp (iS m ρ) M QS = wp (m ρ) M fun d M1 => wp (srcD d) M1 QS := q_iS
@[simp ↓] theorem w_iR {ms : List XE} : wp (iR ms ρ) M QS = wp (aL ms ρ) M fun d M1 => wp (rngD d) M1 QS := q_iR
@[simp ↓] theorem w_eM {pre : MS → D → Bool} {g : D → List D → Mo D} {mo : XE} {ms : List XE} : wp (eM pre g mo ms ρ) M Q = wp (mo ρ) M fun o M1 => pre M1 o = true ∧ wp (aL ms ρ) M1 fun ds M2 => wp (g o ds) M2 Q := q_eM
@[simp ↓] theorem w_sNext : wp (sNext ρ) M QF = QF (.nx ρ) M := q_sNext
@[simp ↓] theorem w_seqnx {b : XS} : wp (seqK b (.nx ρ)) M QF = wp (b ρ) M QF := q_seqnx
@[simp ↓] theorem w_seqrt {b : XS} {d : D} : wp (seqK b (.rt d)) M QF = QF (.rt d) M := q_seqrt
@[simp ↓] theorem w_seqbk {b : XS} : wp (seqK b (.bk ρ)) M QF = QF (.bk ρ) M := q_seqbk
@[simp ↓] theorem w_seqct {b : XS} : wp (seqK b (.ct ρ)) M QF = QF (.ct ρ) M := q_seqct
@[simp ↓] theorem w_sSeq {a b : XS} : wp (sSeq a b ρ) M QF = wp (a ρ) M fun r M1 => wp (seqK b r) M1 QF := q_sSeq
@[simp ↓] theorem w_sIf {t : Rho → Mo Bool} {a b : XS} : wp (sIf t a b ρ) M QF = wp (t ρ) M fun c M1 => if c = true then wp (a ρ) M1 QF else wp (b ρ) M1 QF := q_sIf
@[simp ↓] theorem w_sRet {m : XE} : wp (sRet m ρ) M QF = wp (m ρ) M fun d M1 => QF (.rt d) M1 := q_sRet
@[simp ↓] theorem w_sRetN : wp (sRetN ρ) M QF = QF (.rt .non) M := q_sRetN
@[simp ↓] theorem w_sBrk : wp (sBrk ρ) M QF = QF (.bk ρ) M := q_sBrk
@[simp ↓] theorem w_sCnt : wp (sCnt ρ) M QF = QF (.ct ρ) M := q_sCnt
@[simp ↓] theorem w_sExpr {m : XE} : wp (sExpr m ρ) M QF = wp (m ρ) M fun _ M1 => QF (.nx ρ) M1 := q_sExpr
@[simp ↓] theorem w_gN {i : Nat} {d : D} : wp (gN i d ρ) M QR = QR (ρ.set i (some d)) M := q_gN
@[simp ↓] theorem w_gAn : wp (gA [] [] ρ) M QR = QR ρ M := q_gAn
@[simp ↓] theorem w_gAc {g : XG} {gs : List XG} {d : D} {ds : List D} : wp (gA (g :: gs) (d :: ds) ρ) M QR = wp (g d ρ) M fun r M1 => wp (gA gs ds r) M1 QR := q_gAc
@[simp ↓] theorem w_gT {gs : List XG} {ds : List D} : wp (gT gs (.tup ds) ρ) M QR = (ds.length = gs.length ∧ wp (gA gs ds ρ) M QR) := q_gT
@[simp ↓] theorem w_gS {o i : XE} {v : D} : wp (gS o i v ρ) M QR = wp (o ρ) M fun od M1 => wp (i ρ) M1 fun id M2 => wp (setD od id v) M2 fun _ M3 => QR ρ M3 := q_gS
@[simp ↓] theorem w_sAsg {m : XE} {g : XG} : wp (sAsg m g ρ) M QF = wp (m ρ) M fun d M1 => wp (g d ρ) M1 fun r M2 => QF (.nx r) M2 := q_sAsg
@[simp ↓] theorem w_sPar {i j : Nat} {a b : XE} : wp (sPar i j a b ρ) M QF = wp (a ρ) M fun x M1 => wp (b ρ) M1 fun y M2 => QF (.nx ((ρ.set i (some x)).set j (some y))) M2 := q_sPar
@[simp ↓] theorem w_sFor {it : Rho → Mo Src} {g : XG} {b : XS} : wp (sFor it g b ρ) M QF = wp (it ρ) M fun s M1 => wp (chk s) M1 fun _ M2 => wp (loopF g b s s.xs ρ) M2 QF := q_sFor
@[simp ↓] theorem w_fnB {n : Nat} {body : XS} {ds : List D} : wp (fnB n body ds) M Q = wp (body (ds.map some ++ List.replicate (n - ds.length) none)) M fun r M1 => wp (fnK r) M1 Q := q_fnB
@[simp ↓] theorem w_fnrt {d : D} : wp (fnK (.rt d)) M Q = Q d M := q_fnrt
@[simp ↓] theorem w_fnnx : wp (fnK (.nx ρ)) M Q = Q .non M := q_fnnx
end
/-! ### loops -/
section
variable {M : MS} {g : XG} {b : XS} {s : Src} {QF : Fl → MS → Prop}
theorem wp_loopF (I : List D → Rho → MS → Prop) (fin : ∀ ρ M, I [] ρ M → QF (.nx ρ) M)
    (step : ∀ x rest ρ M, I (x :: rest) ρ M → wp (g x ρ) M fun ρ1 M1 => wp (b ρ1) M1 fun fl M2 => match fl with
      | .nx ρ2 => wp (chk s) M2 fun _ M3 => I rest ρ2 M3
      | .ct ρ2 => wp (chk s) M2 fun _ M3 => I rest ρ2 M3
      | .bk ρ2 => QF (.nx ρ2) M2
      | .rt d => QF (.rt d) M2) : ∀ (xs : List D) (ρ : Rho) (M : MS), I xs ρ M → wp (loopF g b s xs ρ) M QF := wq_loopF I fin step
variable {ct : CT} {t : Rho → Mo Bool} {e : XE} {ρ0 : Rho} {QL : List D → MS → Prop}
theorem wp_loopC (I : List D → List D → MS → Prop)
    (step : ∀ x rest acc M, I (x :: rest) acc M → wp (ct.put x ρ0) M fun ρ1 M1 => wp (t ρ1) M1 fun c M2 => if c = true then wp (e ρ1) M2 fun y M3 => wp (chk s) M3 fun _ M4 => I rest (acc ++ [y]) M4 else wp (chk s) M2 fun _ M4 => I rest acc M4) :
    ∀ (xs acc : List D) (M : MS) (QL : List D → MS → Prop), I xs acc M → (∀ ys M, I [] (acc ++ ys) M → QL ys M) → wp (loopC ct t e s ρ0 xs) M QL := wq_loopC I step
@[simp ↓] theorem w_put1 {i : Nat} {d : D} {QR : Rho → MS → Prop} : wp (CT.put (.one i) d ρ0) M QR = QR (ρ0.set i (some d)) M := q_put1
@[simp ↓] theorem w_putT {is : List Nat} {ds : List D} {QR : Rho → MS → Prop} : wp (CT.put (.tup is) (.tup ds) ρ0) M QR = (ds.length = is.length ∧ QR (setAll is ds ρ0) M) := q_putT
@[simp ↓] theorem w_tAll {ρ : Rho} {QB : Bool → MS → Prop} : wp (tAll ρ) M QB = QB true M := q_tAll
/-- a while, by a measure -/
theorem wp_sWh {t : Rho → Mo Bool} {b : XS} (I : Nat → Rho → MS → Prop)
    (step : ∀ n ρ M, I n ρ M → wp (t ρ) M fun c M1 => if c = true then wp (b ρ) M1 fun fl M2 => match fl with
        | .nx ρ2 => ∃ k, k < n ∧ I k ρ2 M2
        | .ct ρ2 => ∃ k, k < n ∧ I k ρ2 M2
        | .bk ρ2 => QF (.nx ρ2) M2
        | .rt d => QF (.rt d) M2
      else QF (.nx ρ) M1) : ∀ (n : Nat) (ρ : Rho) (M : MS), I n ρ M → wp (sWh t b ρ) M QF := wq_sWh I step
end
/-! ### operations -/
section
variable {M : MS} {Q : D → MS → Prop} {QS : Src → MS → Prop} {i j : Int}
@[simp ↓] theorem w_add : wp (addD (.int i) (.int j)) M Q = Q (.int (i + j)) M := q_add
@[simp ↓] theorem w_addS {x y : Str} : wp (addD (.str x) (.str y)) M Q = (fits (x.length + y.length) = true ∧ Q (.str (x ++ y)) M) := q_addS
@[simp ↓] theorem w_addT {x y : List D} : wp (addD (.tup x) (.tup y)) M Q = (fits (x.length + y.length) = true ∧ Q (.tup (x ++ y)) M) := q_addT
@[simp ↓] theorem w_addL {x y : List D} : wp (addD (.lst x) (.lst y)) M Q = (fits (x.length + y.length) = true ∧ Q (.lst (x ++ y)) M) := q_addL
@[simp ↓] theorem w_sub : wp (subD (.int i) (.int j)) M Q = Q (.int (i - j)) M := q_sub
@[simp ↓] theorem w_mul : wp (mulD (.int i) (.int j)) M Q = (mulOk i j = true ∧ Q (.int (i * j)) M) := q_mul
@[simp ↓] theorem w_fdiv : wp (fdivD (.int i) (.int j)) M Q = (divOk j = true ∧ Q (.int (i / j)) M) := q_fdiv
@[simp ↓] theorem w_mod : wp (modD (.int i) (.int j)) M Q = (0 < j ∧ Q (.int (i % j)) M) := q_mod
@[simp ↓] theorem w_neg : wp (negD (.int i)) M Q = Q (.int (-i)) M := q_neg
@[simp ↓] theorem w_lt : wp (ltD (.int i) (.int j)) M Q = Q (.bl (decide (i < j))) M := q_lt
@[simp ↓] theorem w_le : wp (leD (.int i) (.int j)) M Q = Q (.bl (decide (i ≤ j))) M := q_le
@[simp ↓] theorem w_gt : wp (gtD (.int i) (.int j)) M Q = Q (.bl (decide (j < i))) M := q_gt
@[simp ↓] theorem w_ge : wp (geD (.int i) (.int j)) M Q = Q (.bl (decide (j ≤ i))) M := q_ge
@[simp ↓] theorem w_eq {d e : D} : wp (eqD d e) M Q = wp (Mo.opt ((eqvD d e).map D.bl)) M Q := q_eq
@[simp ↓] theorem w_ne {d e : D} : wp (neD d e) M Q = wp (Mo.opt ((eqvD d e).map fun b => D.bl (!b))) M Q := q_ne
@[simp ↓] theorem w_isN {d : D} : wp (isND d .non) M Q = Q (.bl (isNonB d)) M := q_isN
@[simp ↓] theorem w_isntN {d : D} : wp (isntND d .non) M Q = Q (.bl (!isNonB d)) M := q_isntN
@[simp ↓] theorem w_ixT {xs : List D} : wp (ixD (.tup xs) (.int i)) M Q = wp (Mo.opt (atI xs i)) M Q := q_ixT
@[simp ↓] theorem w_ixL {xs : List D} : wp (ixD (.lst xs) (.int i)) M Q = wp (Mo.opt (atI xs i)) M Q := q_ixL
@[simp ↓] theorem w_lenT {xs : List D} : wp (lenD [.tup xs]) M Q = Q (.int xs.length) M := q_lenT
@[simp ↓] theorem w_lenL {xs : List D} : wp (lenD [.lst xs]) M Q = Q (.int xs.length) M := q_lenL
@[simp ↓] theorem w_lenS {z : Str} : wp (lenD [.str z]) M Q = (fits z.length = true ∧ Q (.int z.length) M) := q_lenS
@[simp ↓] theorem w_lenO {n : Nat} {xs : List D} (h : M[n]? = some (.lst xs)) : wp (lenD [.obj n]) M Q = Q (.int xs.length) M := q_lenO h
@[simp ↓] theorem w_abs : wp (absD [.int i]) M Q = Q (.int (i.natAbs : Int)) M := q_abs
@[simp ↓] theorem w_int : wp (DL.intD [.int i]) M Q = Q (.int i) M := q_int
@[simp ↓] theorem w_listT {xs : List D} : wp (listD [.tup xs]) M Q = Q (.lst xs) M := q_listT
@[simp ↓] theorem w_listL {xs : List D} : wp (listD [.lst xs]) M Q = Q (.lst xs) M := q_listL
@[simp ↓] theorem w_listS {ns : List Int} : wp (listD [.scr ns]) M Q = Q (.lst (ns.map D.int)) M := q_listS
@[simp ↓] theorem w_tupT {xs : List D} : wp (tupleD [.tup xs]) M Q = Q (.tup xs) M := q_tupT
@[simp ↓] theorem w_tupL {xs : List D} : wp (tupleD [.lst xs]) M Q = Q (.tup xs) M := q_tupL
@[simp ↓] theorem w_allL {xs : List D} {bs : List Bool} (h : blsOf xs = some bs) : wp (allD [.lst xs]) M Q = Q (.bl (bs.all id)) M := q_allL h
@[simp ↓] theorem w_sumL {xs : List D} {bs : List Int} (h : intsOf xs = some bs) : wp (sumD [.lst xs]) M Q = Q (.int bs.sum) M := q_sumL h
@[simp ↓] theorem w_revT {xs : List D} : wp (revD (.tup xs)) M Q = Q (.tup xs.reverse) M := q_revT
@[simp ↓] theorem w_revL {xs : List D} : wp (revD (.lst xs)) M Q = Q (.lst xs.reverse) M := q_revL
@[simp ↓] theorem w_slT {xs : List D} {l h : Option Int} : wp (slD l h (.tup xs)) M Q = Q (.tup (cut xs l h)) M := q_slT
@[simp ↓] theorem w_slL {xs : List D} {l h : Option Int} : wp (slD l h (.lst xs)) M Q = Q (.lst (cut xs l h)) M := q_slL
@[simp ↓] theorem w_slS {xs : List Int} {l h : Option Int} : wp (slD l h (.scr xs)) M Q = Q (.lst ((cut xs l h).map D.int)) M := q_slS
@[simp ↓] theorem w_rng1 : wp (rngD [.int j]) M QS = (small62 j = true ∧ QS (.frz (rngL 0 j)) M) := q_rng1
@[simp ↓] theorem w_rng2 : wp (rngD [.int i, .int j]) M QS = ((small62 i && small62 j) = true ∧ QS (.frz (rngL i j)) M) := q_rng2
@[simp ↓] theorem w_srcT {xs : List D} : wp (srcD (.tup xs)) M QS = QS (.frz xs) M := q_srcT
@[simp ↓] theorem w_srcL {xs : List D} : wp (srcD (.lst xs)) M QS = QS (.frz xs) M := q_srcL
@[simp ↓] theorem w_srcS {ns : List Int} : wp (srcD (.scr ns)) M QS = QS (.frz (ns.map D.int)) M := q_srcS
@[simp ↓] theorem w_isi {T : Ty} {d : D} (h : DL.plain d = true) : wp (isiD T d) M Q = Q (.bl (isT T d)) M := q_isi h
@[simp ↓] theorem w_isiI {T : Ty} {i : Int} : wp (isiD T (.int i)) M Q = Q (.bl (isT T (.int i))) M := q_isiI
@[simp ↓] theorem w_isiB {T : Ty} {i : Bool} : wp (isiD T (.bl i)) M Q = Q (.bl (isT T (.bl i))) M := q_isiB
@[simp ↓] theorem w_isiT {T : Ty} {i : List D} : wp (isiD T (.tup i)) M Q = Q (.bl (isT T (.tup i))) M := q_isiT
@[simp ↓] theorem w_isiL {T : Ty} {i : List D} : wp (isiD T (.lst i)) M Q = Q (.bl (isT T (.lst i))) M := q_isiL
@[simp ↓] theorem w_isiS {T : Ty} {i : Str} : wp (isiD T (.str i)) M Q = Q (.bl (isT T (.str i))) M := q_isiS
@[simp ↓] theorem w_isiN {T : Ty} : wp (isiD T .non) M Q = Q (.bl (isT T .non)) M := q_isiN
@[simp ↓] theorem w_isiE {T : Ty} : wp (isiD T .emp) M Q = Q (.bl (isT T .emp)) M := q_isiE
end
end DL

namespace DL
open PySem PySem.Spec PyProof.Rows L2
section
variable {M : MS} {g : XG} {b : XS} {s : List D} {QF : Fl → MS → Prop} {ct : CT} {t : Rho → Mo Bool} {e : XE} {ρ0 : Rho} {QL : List D → MS → Prop}
/-- a for over a fixed list, by the number of the round -/
theorem wp_forI {xs0 : List D} (I : Nat → Rho → MS → Prop) (fin : ∀ ρ M, I xs0.length ρ M → QF (.nx ρ) M)
    (step : ∀ (i : Nat) x ρ M, xs0[i]? = some x → I i ρ M → wp (g x ρ) M fun ρ1 M1 => wp (b ρ1) M1 fun fl M2 => match fl with
      | .nx ρ2 => I (i + 1) ρ2 M2
      | .ct ρ2 => I (i + 1) ρ2 M2
      | .bk ρ2 => QF (.nx ρ2) M2
      | .rt d => QF (.rt d) M2) {ρ : Rho} {M : MS} (h : I 0 ρ M) : wp (loopF g b (.frz s) xs0 ρ) M QF := by
  refine wp_loopF (fun rest ρ M => ∃ i, i ≤ xs0.length ∧ rest = xs0.drop i ∧ I i ρ M) ?_ ?_ xs0 ρ M ⟨0, Nat.zero_le _, rfl, h⟩
  · rintro ρ M ⟨i, hi, hr, hI⟩
    have : xs0.length ≤ i := by simpa using hr.symm
    have : i = xs0.length := by omega
    subst this
    exact fin ρ M hI
  · rintro x rest ρ M ⟨i, hi, hr, hI⟩
    have hx : xs0[i]? = some x := by
      have := congrArg (fun l => l[0]?) hr.symm
      simpa using this
    have hd2 : rest = xs0.drop (i + 1) := by
      have := congrArg List.tail hr
      simpa [List.tail_drop] using this
    have hlt := (List.getElem?_eq_some_iff.mp hx).1
    refine wp_mono (step i x ρ M hx hI) fun ρ1 M1 h1 => wp_mono h1 fun fl M2 h2 => ?_
    cases fl with
    | nx ρ2 => exact wp_call (chk_frz _ _) ⟨i + 1, hlt, hd2, h2⟩
    | ct ρ2 => exact wp_call (chk_frz _ _) ⟨i + 1, hlt, hd2, h2⟩
    | bk ρ2 => exact h2
    | rt d => exact h2
theorem wp_comI {xs0 : List D} (I : Nat → List D → MS → Prop)
    (step : ∀ (i : Nat) x acc M, xs0[i]? = some x → I i acc M → wp (ct.put x ρ0) M fun ρ1 M1 => wp (t ρ1) M1 fun c M2 => if c = true then wp (e ρ1) M2 fun y M3 => I (i + 1) (acc ++ [y]) M3 else I (i + 1) acc M2)
    {M : MS} (h : I 0 [] M) (fin : ∀ ys M, I xs0.length ys M → QL ys M) : wp (loopC ct t e (.frz s) ρ0 xs0) M QL := by
  refine wp_loopC (fun rest acc M => ∃ i, i ≤ xs0.length ∧ rest = xs0.drop i ∧ I i acc M) ?_ xs0 [] M QL ⟨0, Nat.zero_le _, rfl, h⟩ ?_
  · rintro x rest acc M ⟨i, hi, hr, hI⟩
    have hx : xs0[i]? = some x := by
      have := congrArg (fun l => l[0]?) hr.symm
      simpa using this
    have hd2 : rest = xs0.drop (i + 1) := by
      have := congrArg List.tail hr
      simpa [List.tail_drop] using this
    have hlt := (List.getElem?_eq_some_iff.mp hx).1
    refine wp_mono (step i x acc M hx hI) fun ρ1 M1 h1 => wp_mono h1 fun c M2 h2 => ?_
    cases c with
    | true =>
      simp only [if_true] at h2 ⊢
      exact wp_mono h2 fun y M3 h3 => wp_call (chk_frz _ _) ⟨i + 1, hlt, hd2, h3⟩
    | false =>
      simp only [Bool.false_eq_true, if_false] at h2 ⊢
      exact wp_call (chk_frz _ _) ⟨i + 1, hlt, hd2, h2⟩
  · rintro ys M ⟨i, hi, hr, hI⟩
    have : xs0.length ≤ i := by simpa using hr.symm
    have : i = xs0.length := by omega
    subst this
    exact fin _ _ hI
end
section
variable {α : Type} {xs : List α}
@[simp] theorem atI_lit {n : Nat} : atI xs (no_index (@OfNat.ofNat Int n _)) = xs[n]? := by
  show atI xs ((n : Nat) : Int) = _
  unfold atI ixN
  rw [if_pos (by omega)]
  by_cases h : n < xs.length
  · rw [if_pos (by omega)]; simp
  · rw [if_neg (by omega)]; simp; omega
@[simp] theorem atI_nat {n : Nat} : atI xs (n : Int) = xs[n]? := atI_lit
@[simp] theorem sIx_lit {n d k : Nat} : HT.sIx n d (some (no_index (@OfNat.ofNat Int k _))) = min k n := HT.sIx_nat n d k
@[simp] theorem sIx_nat' {n d k : Nat} : HT.sIx n d (some (k : Int)) = min k n := HT.sIx_nat n d k
@[simp] theorem sIx_non {n d : Nat} : HT.sIx n d none = d := rfl
end
theorem small62_nat {n : Nat} (h : n ≤ 1000000) : small62 (n : Int) = true := by
  unfold small62
  simp
  omega
@[simp ↓] theorem w_pow {i j : Int} {M : MS} {Q : D → MS → Prop} : wp (powD (.int i) (.int j)) M Q = (powOk i j = true ∧ Q (.int (i ^ j.toNat)) M) := q_ifret
end DL
namespace DL
open PySem PySem.Spec PyProof.Rows L2
theorem wp_seq {a b : XS} {ρ ρ' : Rho} {M M' : MS} {Q : Fl → MS → Prop} (h : wp (a ρ) M fun r M1 => r = .nx ρ' ∧ M1 = M') (k : wp (b ρ') M' Q) : wp (sSeq a b ρ) M Q := by
  rw [w_sSeq]
  refine wp_mono h ?_
  rintro r M1 ⟨rfl, rfl⟩
  exact k
end DL

/-! DL: in, not in; more built-ins. -/
namespace DL
open PySem PySem.Spec PyProof.Rows L2
def flatD : D → Bool
  | .non => true
  | .int _ => true
  | .str _ => true
  | _ => false
def flatEq : D → D → Bool
  | .non, .non => true
  | .int a, .int b => decide (a = b)
  | .str a, .str b => decide (a = b)
  | _, _ => false
def memSq (M : MS) (d e : D) : Option Bool := match seqOf M e with
  | some xs => if (flatD d && xs.all flatD) = true then some (xs.any fun y => flatEq y d) else (match lstOf M e, toPy d, toPys xs with
    | some _, some p, some ps => if (SeqAt.shaped p && SeqAt.shaped (.list ps)) = true then some (ps.any fun z => PyData.eqv z p) else none
    | _, _, _ => none)
  | none => none
def memStr (d : D) (z : Str) : Option Bool := match d with
  | .str x => (match x.cps.toList with
    | [c] => some (decide (c ∈ z.cps.toList))
    | _ => none)
  | _ => none
def memB (M : MS) (d e : D) : Option Bool := match dAt M e d with
  | some o => some o.isSome
  | none => (match e with
    | .str z => memStr d z
    | e => memSq M d e)
def memD (d e : D) : Mo D := fun M => match memB M d e with
  | some b => some (.ok (.bl b), M)
  | none => none
def nmemD (d e : D) : Mo D := fun M => match memB M d e with
  | some b => some (.ok (.bl (!b)), M)
  | none => none
section
variable {K : PySem.W.Frag} {W : Wd}
theorem flat_rep {d : D} {v : V} (r : Rep K W d v) (h : flatD d = true) : flatV v = true := by
  cases d <;> first | (cases h; done) | (rw [show v = _ from r]; rfl)
theorem flatEq_rep {d e : D} {v u : V} (r : Rep K W d v) (q : Rep K W e u) (h : flatD d = true) (h' : flatD e = true) : eqV v u = flatEq d e := by
  cases d <;> first
    | (cases h; done)
    | (cases e <;> first
       | (cases h'; done)
       | (rw [show v = _ from r, show u = _ from q]; first | rfl | (unfold eqV flatEq; simp only [beq_eq_decide]) | (unfold eqV flatEq; simp [BEq.beq, decide_eq_decide])))
theorem flats_rep : ∀ {xs : List D} {vs : List V}, Reps K W xs vs → xs.all flatD = true → vs.all flatV = true
  | [], _, r, _ => by rw [show _ = [] from r]; rfl
  | d :: ds, _, ⟨v, us, e, r, q⟩, h => by
    have h2 := Bool.and_eq_true_iff.mp (show (flatD d && ds.all flatD) = true from h)
    rw [e]
    show (flatV v && us.all flatV) = true
    rw [flat_rep r h2.1, flats_rep q h2.2]; rfl
theorem anys_rep {d : D} {v : V} (rd : Rep K W d v) (hd : flatD d = true) : ∀ {xs : List D} {vs : List V}, Reps K W xs vs → xs.all flatD = true → inV v vs = xs.any fun y => flatEq y d
  | [], _, r, _ => by rw [show _ = [] from r]; rfl
  | d' :: ds, _, ⟨v', us, e, r, q⟩, h => by
    have h2 := Bool.and_eq_true_iff.mp (show (flatD d' && ds.all flatD) = true from h)
    rw [e]
    show (eqV v' v || inV v us) = (flatEq d' d || ds.any fun y => flatEq y d)
    rw [flatEq_rep r rd h2.1 hd, anys_rep rd hd q h2.2]
end
section
variable {X : Cx} {cl : Cl} {E : XK} {pos : Pos}
theorem mem_cases {M : MS} {d e : D} {b : Bool} {W : Wd} {H : Hp} {x y : V} (r1 : Rep X.K W d x) (r2 : Rep X.K W e y) (hH : HRel X.K cl W M H) (h : memB M d e = some b) :
    (∃ o, dAt M e d = some o ∧ b = o.isSome) ∨ (∃ (c : Nat) (z : Str), x = .str ⟨#[c]⟩ ∧ y = .str z ∧ b = decide (c ∈ z.cps.toList)) ∨ (∃ p vs, y = .ref p ∧ (SqL X.K H p vs ∨ SqT X.K H p vs) ∧ flatV x = true ∧ vs.all flatV = true ∧ b = inV x vs) ∨
      ∃ p ps, Dp X.K H x p ∧ Dp X.K H y (.list ps) ∧ SeqAt.shaped p = true ∧ SeqAt.shaped (.list ps) = true ∧ b = ps.any fun z => PyData.eqv z p := by
  unfold memB at h
  cases e0 : dAt M e d with
  | some o => rw [e0] at h; cases h; exact .inl ⟨o, rfl, rfl⟩
  | none =>
    simp only [e0] at h
    have sq : memSq M d e = some b → (∃ p vs, y = .ref p ∧ (SqL X.K H p vs ∨ SqT X.K H p vs) ∧ flatV x = true ∧ vs.all flatV = true ∧ b = inV x vs) ∨
        ∃ p ps, Dp X.K H x p ∧ Dp X.K H y (.list ps) ∧ SeqAt.shaped p = true ∧ SeqAt.shaped (.list ps) = true ∧ b = ps.any fun z => PyData.eqv z p := fun h => by
      unfold memSq at h
      cases e1 : seqOf M e with
      | none => simp [e1] at h
      | some xs =>
        simp only [e1] at h
        by_cases c : (flatD d && xs.all flatD) = true
        · rw [if_pos c] at h
          have c2 := Bool.and_eq_true_iff.mp c
          cases h
          obtain ⟨a, vs, z, s, q⟩ := seq_of hH r2 e1
          exact .inl ⟨a, vs, z, s, flat_rep r1 c2.1, flats_rep q c2.2, (anys_rep r1 c2.1 q c2.2).symm⟩
        · rw [if_neg c] at h
          cases e2 : lstOf M e with
          | none => simp [e2] at h
          | some ys =>
            cases e3 : toPy d with
            | none => simp [e2, e3] at h
            | some p =>
              cases e4 : toPys xs with
              | none => simp [e2, e3, e4] at h
              | some ps =>
                simp only [e2, e3, e4] at h
                by_cases c3 : (SeqAt.shaped p && SeqAt.shaped (.list ps)) = true
                · rw [if_pos c3] at h
                  have c4 := Bool.and_eq_true_iff.mp c3
                  cases h
                  have e5 : ys = xs := by
                    have : seqOf M e = some ys := by
                      cases e <;> first | exact e2 | (cases e2; done)
                    rw [e1] at this
                    exact (Option.some.inj this).symm
                  subst e5
                  obtain ⟨a, vs, z, s, q⟩ := lst_of hH r2 e2
                  subst z
                  exact .inr ⟨p, ps, dp_of hH.gle d x p r1 e3, .lst (.inl s) (dps_of hH.gle ys vs ps q e4), c4.1, c4.2, rfl⟩
                · rw [if_neg c3] at h; cases h
    cases e with
    | str z =>
      have h : memStr d z = some b := h
      cases d with
      | str w =>
        unfold memStr at h
        cases e1 : w.cps.toList with
        | nil => simp [e1] at h
        | cons c r =>
          cases r with
          | nil =>
            simp only [e1, Option.some.injEq] at h
            refine .inr (.inl ⟨c, z, ?_, r2, h.symm⟩)
            rw [show x = _ from r1]
            have : w = ⟨#[c]⟩ := by
              cases w with
              | mk a =>
                have : a.toList = [c] := e1
                congr 1
                apply Array.ext'
                simpa using this
            rw [this]
          | cons c2 r2 => simp [e1] at h
      | _ => cases h
    | _ => exact (sq h).elim (fun z => .inr (.inr (.inl z))) fun z => .inr (.inr (.inr z))
theorem od_in (hu : X.A.units + 100 < cLine) (hw : cl.w = X.w) : OpD X cl E (compareOp .In) memD := OpR.imp ((op_inDct (cl := cl) hu hw).or (op_inS.or (op_in_seq.or (op_inD (by omega))))) fun x y H Q ⟨d, e, M, W, r1, r2, hH, hp⟩ => by
  have hp : Post X.K cl E (Rep X.K) W ((match memB M d e with | some b => some (.ok (.bl b), M) | none => none : Out D)) Q := hp
  cases e0 : memB M d e with
  | none => rw [e0] at hp; exact hp.elim
  | some b =>
    rw [e0] at hp
    have q := hp W H _ (.refl W) rfl hH
    rcases mem_cases r1 r2 hH e0 with ⟨o, e1, rfl⟩ | ⟨c, z, rfl, rfl, rfl⟩ | ⟨p, vs, rfl, s, f1, f2, rfl⟩ | ⟨p, ps, a1, a2, a3, a4, rfl⟩
    · exact .inl ⟨d, e, M, W, o, r1, r2, hH, e1, q⟩
    · exact .inr (.inl ⟨c, z, rfl, rfl, q⟩)
    · exact .inr (.inr (.inl ⟨p, vs, rfl, s, f1, f2, q⟩))
    · exact .inr (.inr (.inr ⟨p, ps, a1, a2, a3, a4, q⟩))
theorem od_notin (hu : X.A.units + 100 < cLine) (hw : cl.w = X.w) : OpD X cl E (compareOp .NotIn) nmemD := OpR.imp ((op_notInDct (cl := cl) hu hw).or (op_notInS.or (op_notIn_seq.or (op_notInD (by omega))))) fun x y H Q ⟨d, e, M, W, r1, r2, hH, hp⟩ => by
  have hp : Post X.K cl E (Rep X.K) W ((match memB M d e with | some b => some (.ok (.bl (!b)), M) | none => none : Out D)) Q := hp
  cases e0 : memB M d e with
  | none => rw [e0] at hp; exact hp.elim
  | some b =>
    rw [e0] at hp
    have q := hp W H _ (.refl W) rfl hH
    rcases mem_cases r1 r2 hH e0 with ⟨o, e1, rfl⟩ | ⟨c, z, rfl, rfl, rfl⟩ | ⟨p, vs, rfl, s, f1, f2, rfl⟩ | ⟨p, ps, a1, a2, a3, a4, rfl⟩
    · exact .inl ⟨d, e, M, W, o, r1, r2, hH, e1, q⟩
    · exact .inr (.inl ⟨c, z, rfl, rfl, q⟩)
    · exact .inr (.inr (.inl ⟨p, vs, rfl, s, f1, f2, q⟩))
    · exact .inr (.inr (.inr ⟨p, ps, a1, a2, a3, a4, q⟩))
end
end DL

/-! DL: zip of two lists or tuples. -/
namespace DL
open PySem PySem.Spec PyProof.Rows L2
/-- true: a tuple; false: a list -/
def SqK (K : PySem.W.Frag) : Bool → Hp → Addr → List V → Prop
  | true => SqT K
  | false => SqL K
def ItK : Bool → Heap → Addr → Addr → Nat → Prop
  | true => Heap.IsTupleIter
  | false => Heap.IsListIter
def IsK : Bool → Heap → Addr → Array Value → Prop
  | true => Heap.IsTuple
  | false => Heap.IsList
def cnK : Bool → String
  | true => "tuple_iterator"
  | false => "list_iterator"
theorem inv_sqk {X : Cx} {pins : List (Addr × Obj)} {σ : L2.St} {H : Hp} {s : Shared} {k : Bool} {a : Addr} {xs : List V} (I : Inv X pins σ H s) (h : SqK X.K k H a xs) : ∃ its : List Value, Vals xs its ∧ IsK k s.heap a its.toArray ∧ a < s.heap.objs.size := by
  cases k with
  | true =>
    obtain ⟨its, rv, p, _⟩ := I.tuple h
    obtain ⟨o, ho, hr⟩ := id p
    exact ⟨its, rv, ⟨o, ho, hr⟩, Heap.lt_size ho⟩
  | false =>
    obtain ⟨its, rv, p, _⟩ := I.list h
    exact ⟨its, rv, p.isList, p.lt⟩
theorem sqk_inj {X : Cx} {pins : List (Addr × Obj)} {σ : L2.St} {H : Hp} {s : Shared} {k : Bool} {a : Addr} {xs ys : List V} (I : Inv X pins σ H s) (h : SqK X.K k H a xs) (g : SqK X.K k H a ys) : xs = ys := by
  cases k with
  | true => exact I.tuple_inj h g
  | false => exact I.list_inj h g
theorem draws_k {prog : Program} {w : World} {A : Around} (k : Bool) (hh : A.handled = none) (it l : Addr) (hne : l ≠ it) (items : Array Value) :
    Draws prog w A it [it, l] items.size (fun i v => items[i]? = some v) (fun i h => ItK k h it l i ∧ IsK k h l items) := by
  cases k with
  | true => exact Draws.tuple hh it l hne items
  | false => exact Draws.list hh it l hne items
theorem itk_obj {k : Bool} {h : Heap} {it l : Addr} {i : Nat} (q : ItK k h it l i) : ∃ o, h.get? it = some o ∧ ∀ v, o.data ≠ .cell v := by
  cases k with
  | true => obtain ⟨o, e, _, d⟩ := q; exact ⟨o, e, fun v z => by rw [d] at z; cases z⟩
  | false => obtain ⟨o, e, _, d⟩ := q; exact ⟨o, e, fun v z => by rw [d] at z; cases z⟩
theorem itk_at {k : Bool} {h h' : Heap} {it l : Addr} {i : Nat} (q : ItK k h it l i) (f : ∀ o, h.get? it = some o → h'.get? it = some o) : ItK k h' it l i := by
  cases k with
  | true => obtain ⟨o, e, r⟩ := q; exact ⟨o, f o e, r⟩
  | false => obtain ⟨o, e, r⟩ := q; exact ⟨o, f o e, r⟩
theorem isk_at {k : Bool} {h h' : Heap} {l : Addr} {xs : Array Value} (q : IsK k h l xs) (f : ∀ o, h.get? l = some o → h'.get? l = some o) : IsK k h' l xs := by
  cases k with
  | true => obtain ⟨o, e, r⟩ := q; exact ⟨o, f o e, r⟩
  | false => obtain ⟨o, e, r⟩ := q; exact ⟨o, f o e, r⟩
theorem sep_of {z TI TO i1 i2 l1 l2 : Addr} (D : ZipApart z TI TO i1 i2 l1 l2) : ZipSep2 z TI TO i1 i2 [i1, l1] [i2, l2] where
  TIz := D.TIz
  TOz := D.TOz
  TITO := D.TITO
  TIi1 := D.TIi1
  mem1 := by simp
  zf1 := by simp [D.i1z.symm, D.l1z.symm]
  Tf1 := by simp [D.TOi1, D.l1TO.symm]
  TIi2 := D.TIi2
  mem2 := by simp
  zf2 := by simp [D.i2z.symm, D.l2z.symm]
  Tf2 := by simp [D.TOi2, D.l2TO.symm]
  sep1_2 := by simp [D.i12, D.l2i1.symm]
  sep2_1 := by simp [D.i12.symm, D.l1i2.symm]
/-- pairs of two sequences, each of its kind -/
def ItzM (K : PySem.W.Frag) (k1 k2 : Bool) (a b : Addr) : It where
  go := fun i H => ∃ (xs ys : List V) (x y : V), SqK K k1 H a xs ∧ SqK K k2 H b ys ∧ xs[i]? = some x ∧ ys[i]? = some y
  yld := fun i H v H' => ∃ (T : Addr) (o : Obj) (x y : V), v = .ref T ∧ o.dict = none ∧ H T = none ∧ H' = upd H T (.frz o (.tup [x, y])) ∧ (∀ xs, SqK K k1 H a xs → xs[i]? = some x) ∧ ∀ ys, SqK K k2 H b ys → ys[i]? = some y
  stop := fun i H => ∃ xs ys : List V, SqK K k1 H a xs ∧ SqK K k2 H b ys ∧ i ≤ xs.length ∧ i ≤ ys.length ∧ (i = xs.length ∨ i = ys.length)
theorem turn_zipM {P : Program} {w : World} {K : PySem.W.Frag} {tg : List Expr} {kk : Nat} {tp : Pos} {k1 k2 : Bool} {a b z TI TO i1 i2 : Addr} (D : ZipApart z TI TO i1 i2 a b) :
    Turn P w K (.Tuple tg kk tp) (ItzM K k1 k2 a b) [z, TI, TO, i1, i2] z (fun i h => IsZip h z TI TO .none ∧ IsPair h TI (.ref i1) (.ref i2) ∧ (∃ x y, IsPair h TO x y) ∧ ItK k1 h i1 a i ∧ ItK k2 h i2 b i) where
  mem := by simp
  obj := fun i h st c hm => by
    obtain ⟨s1, s2, ⟨x, y, s3⟩, s4, s5⟩ := st
    have cs : c = z ∨ c = TI ∨ c = TO ∨ c = i1 ∨ c = i2 := by simpa using hm
    rcases cs with rfl | rfl | rfl | rfl | rfl
    · exact ⟨_, s1, fun v q => nomatch q⟩
    · exact ⟨_, s2, fun v q => nomatch q⟩
    · exact ⟨_, s3, fun v q => nomatch q⟩
    · exact itk_obj s4
    · exact itk_obj s5
  keep := fun i h h' st f => by
    obtain ⟨s1, s2, ⟨x, y, s3⟩, s4, s5⟩ := st
    exact ⟨f z (by simp) _ s1, f TI (by simp) _ s2, ⟨x, y, f TO (by simp) _ s3⟩, itk_at s4 fun o q => f i1 (by simp) o q, itk_at s5 fun o q => f i2 (by simp) o q⟩
  item := by
    intro X hP hw hK hc i pins s σ H E I hf st hg
    subst hP hw hK
    obtain ⟨s1, s2, ⟨x0, y0, s3⟩, s4, s5⟩ := st
    obtain ⟨xs, ys, x, y, qx, qy, ex, ey⟩ := hg
    obtain ⟨m1, r1, p1, _⟩ := inv_sqk I qx
    obtain ⟨m2, r2, p2, _⟩ := inv_sqk I qy
    obtain ⟨u1, e1, ru1⟩ := r1.get ex
    obtain ⟨u2, e2, ru2⟩ := r2.get ey
    have zl : z < s.heap.objs.size := Heap.lt_size s1
    have hh : X.A.in1.handled = none := I.ok.hd hc
    refine wpAny_pyNext_zipD2_item (sep_of D) (draws_k (prog := X.prog) (w := X.w) k1 hh i1 a D.l1i1 m1.toArray) (draws_k (prog := X.prog) (w := X.w) k2 hh i2 b D.l2i2 m2.toArray) s1 s2 s3 ⟨s4, p1⟩ ⟨s5, p2⟩ (by simpa using (List.getElem?_eq_some_iff.mp e1).1) (by simpa using (List.getElem?_eq_some_iff.mp e2).1) fun v1 v2 g tk f1 f2 z2 TO2 j1 j2 nT sz old => ?_
    have f1 : u1 = v1 := by simpa [e1] using f1
    have f2 : u2 = v2 := by simpa [e2] using f2
    subst f1 f2
    refine ⟨_, rfl, wpAny_letOwnedTupleGo_zip (s := { s with heap := g, toks := tk }) z2 fun g2 z3 sb => ?_⟩
    have nT2 : g2.get? s.heap.objs.size = some { cls := .type "tuple", data := .seq #[u1, u2] } := (sb.2 _ (Nat.ne_of_gt zl)).trans nT
    have new : ObjOk X.prog X.w (upd H s.heap.objs.size (.frz (tupO [u1, u2]) (.tup [x, y]))) g2 s.heap.objs.size (.frz (tupO [u1, u2]) (.tup [x, y])) := tupO_ok nT2 (.cons ru1 (.cons ru2 .nil)) (by show 2 ≤ sizeLine; decide)
    have I2 : Inv X pins σ (upd H s.heap.objs.size (.frz (tupO [u1, u2]) (.tup [x, y]))) { s with heap := g2, toks := tk } :=
      I.turnedNew (t' := tk) (ch := [z, TI, TO, i1, i2]) (fun c o nb q => (sb.2 c (fun r => nb (by simp [r]))).trans (old c o (fun r => nb (by simp [r])) (fun r => nb (by simp [r])) (fun r => nb (by simp [r])) (fun r => nb (by simp [r])) q)) hf (Nat.le_refl _) new
    refine ⟨.ref s.heap.objs.size, _, I2, rfl, ⟨_, tupO [u1, u2], x, y, rfl, rfl, I.hok.fresh (Nat.le_refl _), rfl, fun l hl => by rw [sqk_inj I hl qx]; exact ex, fun l hl => by rw [sqk_inj I hl qy]; exact ey⟩, ⟨z3, ?_, ⟨u1, u2, ?_⟩, ?_, ?_⟩, fun c hm => ?_⟩
    · exact (sb.2 _ D.TIz).trans (old _ _ D.TIz D.TITO D.TIi1 D.TIi2 s2)
    · exact (sb.2 _ D.TOz).trans TO2
    · exact itk_at j1.1 fun o q => (sb.2 _ D.i1z).trans q
    · exact itk_at j2.1 fun o q => (sb.2 _ D.i2z).trans q
    · have lt : c < s.heap.objs.size := by
        have cs : c = z ∨ c = TI ∨ c = TO ∨ c = i1 ∨ c = i2 := by simpa using hm
        rcases cs with rfl | rfl | rfl | rfl | rfl
        · exact zl
        · exact Heap.lt_size s2
        · exact Heap.lt_size s3
        · obtain ⟨_, e, _⟩ := itk_obj s4; exact Heap.lt_size e
        · obtain ⟨_, e, _⟩ := itk_obj s5; exact Heap.lt_size e
      rw [upd_ne (Nat.ne_of_lt lt)]
      exact (hf c hm).1
  done := by
    intro X hP hw hK hc i pins s σ H E I hf st hg
    subst hP hw hK
    obtain ⟨s1, s2, ⟨x0, y0, s3⟩, s4, s5⟩ := st
    obtain ⟨xs, ys, qx, qy, l1, l2, fin⟩ := hg
    obtain ⟨m1, r1, p1, _⟩ := inv_sqk I qx
    obtain ⟨m2, r2, p2, _⟩ := inv_sqk I qy
    have n1 := r1.length
    have n2 := r2.length
    have hh : X.A.in1.handled = none := I.ok.hd hc
    refine wpAny_pyNext_zipD2_end (sep_of D) (draws_k (prog := X.prog) (w := X.w) k1 hh i1 a D.l1i1 m1.toArray) (draws_k (prog := X.prog) (w := X.w) k2 hh i2 b D.l2i2 m2.toArray) s1 s2 s3 ⟨s4, p1⟩ ⟨s5, p2⟩ (by simp; omega) (by simp; omega) (by simp; omega) fun g tk old => ⟨rfl, I.turnedL (t' := tk) (ch := [z, TI, TO, i1, i2]) (fun c o nb q =>
      old c o (fun r => nb (by simp [r])) (fun r => nb (by simp [r])) (fun r => nb (by simp [r])) (fun r => nb (by simp [r])) q) hf⟩
  self := fun A i s Q E st h => wpAny_pyIter_zip st.1 h
/-! ### the call -/
abbrev zk1 (k1 : Bool) (h : Heap) (a : Addr) : Heap := h.push { cls := .type (cnK k1), data := .fields #[.ref a, .int 0 0] }
abbrev zk2 (k1 k2 : Bool) (h : Heap) (a b : Addr) : Heap := (zk1 k1 h a).push { cls := .type (cnK k2), data := .fields #[.ref b, .int 0 0] }
abbrev zk3 (k1 k2 : Bool) (h : Heap) (a b : Addr) : Heap := (zk2 k1 k2 h a b).push { cls := .type "tuple", data := .seq #[.ref h.objs.size, .ref (zk1 k1 h a).objs.size] }
abbrev zk4 (k1 k2 : Bool) (h : Heap) (a b : Addr) : Heap := (zk3 k1 k2 h a b).push { cls := .type "tuple", data := .seq #[.none, .none] }
abbrev zk5 (k1 k2 : Bool) (h : Heap) (a b : Addr) : Heap := (zk4 k1 k2 h a b).push { cls := .type "zip", data := .fields #[.none, .bool false, .bool false, .ref (zk2 k1 k2 h a b).objs.size, .ref (zk3 k1 k2 h a b).objs.size] }
theorem iter_k {prog : Program} {w : World} {A : Around} {E : Value → Shared → Prop} {s : Shared} {k : Bool} {t : Addr} {items : Array Value} {Q : Value → Shared → Prop} (ht : IsK k s.heap t items)
    (hQ : Q (.ref s.heap.objs.size) { s with heap := s.heap.push { cls := .type (cnK k), data := .fields #[.ref t, .int 0 0] } }) : wpAny (model prog w) A (pyIter (.ref t)) Q E s := by
  cases k with
  | true => exact wpAny_pyIter_tuple ht hQ
  | false => exact wpAny_pyIter_list ht hQ
theorem isk_push {k : Bool} {h : Heap} {l : Addr} {xs : Array Value} (q : IsK k h l xs) (o : Obj) : IsK k (h.push o) l xs := isk_at q fun _ e => Heap.get?_push_of_some _ e
theorem meets_zk (k1 k2 : Bool) (a b : Addr) (xs ys : Array Value) :
    Meets (Builtin.«zip.__new__» ⟨[.type "zip", .ref a, .ref b], []⟩) (fun _ R s => IsK k1 s.heap a xs ∧ IsK k2 s.heap b ys ∧
      R (.ok (.ret (.ref (zk4 k1 k2 s.heap a b).objs.size))) { s with heap := zk5 k1 k2 s.heap a b }) :=
  .of_wp fun prog w A R s h => by
    obtain ⟨hp, g, d, tk, os⟩ := s
    obtain ⟨ha, hb, h⟩ := h
    have hsub := sub_zip
    have LA : IsK k1 (Shared.heap ⟨hp, g, d, tk, os⟩) a xs := ha
    have LB : IsK k2 (Shared.heap ⟨hp.push { cls := .type (cnK k1), data := .fields #[.ref a, .int 0 0] }, g, d, tk, os⟩) b ys := isk_push hb _
    wp_walk using iter_k LA, iter_k LB
    exact ⟨_, rfl, h⟩
theorem itk_new {k : Bool} {h : Heap} {it l : Addr} (e : h.get? it = some { cls := .type (cnK k), data := .fields #[.ref l, .int 0 0] }) : ItK k h it l 0 := by
  cases k with
  | true => exact ⟨_, e, rfl, rfl⟩
  | false => exact ⟨_, e, rfl, rfl⟩
theorem call_zk {prog : Program} {w : World} {A : Around} {E : Value → Shared → Prop} {s : Shared} {k1 k2 : Bool} {a b : Addr} {xs ys : Array Value} {Q : Value → Shared → Prop} (ha : IsK k1 s.heap a xs) (hb : IsK k2 s.heap b ys)
    (h : ∀ g, IsZip g (s.heap.objs.size + 4) (s.heap.objs.size + 2) (s.heap.objs.size + 3) .none → IsPair g (s.heap.objs.size + 2) (.ref s.heap.objs.size) (.ref (s.heap.objs.size + 1)) →
      IsPair g (s.heap.objs.size + 3) .none .none → ItK k1 g s.heap.objs.size a 0 → ItK k2 g (s.heap.objs.size + 1) b 0 →
      (∀ c o, s.heap.get? c = some o → g.get? c = some o) → Q (.ref (s.heap.objs.size + 4)) { s with heap := g }) :
    wpAny (model prog w) A (call (.type "zip") [.ref a, .ref b]) Q E s := by
  refine callType_new F.called_zip (by decide) (F.typeCall_zip_2 _ _) (F.newCall_zip_2 _ _) (fun o => F.args_object_init_3 o _ _) F.entry_zip_new (meets_zk k1 k2 a b xs ys) ⟨ha, hb, ?_⟩
  have n1 : (zk1 k1 s.heap a).objs.size = s.heap.objs.size + 1 := Heap.size_push ..
  have n2 : (zk2 k1 k2 s.heap a b).objs.size = s.heap.objs.size + 2 := by rw [Heap.size_push, n1]
  have n3 : (zk3 k1 k2 s.heap a b).objs.size = s.heap.objs.size + 3 := by rw [Heap.size_push, n2]
  have n4 : (zk4 k1 k2 s.heap a b).objs.size = s.heap.objs.size + 4 := by rw [Heap.size_push, n3]
  have up : ∀ {h : Heap} {o q : Obj} {c : Addr}, h.get? c = some o → (h.push q).get? c = some o := fun e => Heap.get?_push_of_some _ e
  have q5 : (zk5 k1 k2 s.heap a b).get? (zk4 k1 k2 s.heap a b).objs.size = some _ := Heap.get?_push_size _ rfl
  have q4 : (zk5 k1 k2 s.heap a b).get? (zk3 k1 k2 s.heap a b).objs.size = some _ := up (Heap.get?_push_size _ rfl)
  have q3 : (zk5 k1 k2 s.heap a b).get? (zk2 k1 k2 s.heap a b).objs.size = some _ := up (up (Heap.get?_push_size _ rfl))
  have q2 : (zk5 k1 k2 s.heap a b).get? (zk1 k1 s.heap a).objs.size = some _ := up (up (up (Heap.get?_push_size _ rfl)))
  have q1 : (zk5 k1 k2 s.heap a b).get? s.heap.objs.size = some _ := up (up (up (up (Heap.get?_push_size _ rfl))))
  show _ ∧ _
  rw [n2, n3, n4] at q5
  rw [n1, n2] at q3
  rw [n3] at q4
  rw [n1] at q2
  rw [n4]
  exact ⟨⟨_, q5, rfl⟩, h _ q5 q3 q4 (itk_new q1) (itk_new q2) fun c o e => up (up (up (up (up e))))⟩
/-- what zip walks -/
def iZipM (K : PySem.W.Frag) (ta : TA) : TI := fun σ H R => ta σ H fun vs H1 => ∃ k1 k2 a b xs ys, vs = [.ref a, .ref b] ∧ SqK K k1 H1 a xs ∧ SqK K k2 H1 b ys ∧ R (ItzM K k1 k2 a b) H1
theorem pi_zipM {X : Cx} {e1 e2 : Expr} {ta : TA} {p pos tp : Pos} {tg : List Expr} {kk : Nat} (hg : Gl X "zip") (hm : X.mg "zip" = none) (ha : PA X [e1, e2] ta)
    (hs : starEach [e1, e2] X.env = (false, eval e1 X.env) :: starEach [e2] X.env := by rfl) (hpl : (backTo pos (starEach [e2] X.env)).any (·.1) = false := by rfl) :
    PI X (.Tuple tg kk tp) (.Call (.Name "zip" p) [e1, e2] [] pos) (iZipM X.K ta) := by
  refine ⟨fun pins s σ H R I h => Call_ (ld_blt I hg hm PyProof.Rows.boot_zip (PyProof.Rows.callWith_type1 (thn (ha.run pos pins s σ H _ I h) fun us t ⟨vs, H1, I1, r1, q1⟩ => ?_) hs hpl))⟩
  obtain ⟨k1, k2, a, b, xs, ys, rfl, qx, qy, q⟩ := q1
  cases r1 with
  | cons r rr =>
    cases rr with
    | cons r2 rr =>
      cases rr
      cases r
      cases r2
      obtain ⟨m1, v1, p1, la⟩ := inv_sqk I1 qx
      obtain ⟨m2, v2, p2, lb⟩ := inv_sqk I1 qy
      refine call_zk p1 p2 fun g z1 z2 z3 z4 z5 old => wpAny_pyIter_zip z1 ?_
      have I2 : Inv X pins σ H1 { t with heap := g } := I1.kept (t' := t.toks) old
      refine ⟨t.heap.objs.size + 4, [t.heap.objs.size + 4, t.heap.objs.size + 2, t.heap.objs.size + 3, t.heap.objs.size, t.heap.objs.size + 1], _, _, H1, rfl, I2, turn_zipM (PySem.W.ktu_apart t.heap.objs.size a b la lb), ⟨z1, z2, ⟨_, _, z3⟩, z4, z5⟩, fun c hm => ?_, q⟩
      have ge : t.heap.objs.size ≤ c := by
        have cs : c = t.heap.objs.size + 4 ∨ c = t.heap.objs.size + 2 ∨ c = t.heap.objs.size + 3 ∨ c = t.heap.objs.size ∨ c = t.heap.objs.size + 1 := by simpa using hm
        rcases cs with e | e | e | e | e <;> rw [e] <;> first | exact Nat.le_refl _ | exact Nat.le_add_right _ _
      exact I1.fpOk ge (I1.hok.fresh ge)
/-! ### by plain values -/
def zipL (xs ys : List D) : List D := List.zipWith (fun x y => D.tup [x, y]) xs ys
def seqS (d : D) : Mo Src := match d with
  | .tup xs => Mo.ret (.frz xs)
  | .lst xs => Mo.ret (.frz xs)
  | .scr ns => Mo.ret (.frz (ns.map D.int))
  | .obj n => fun M => match M[n]? with
    | some (.lst xs) => some (.ok (.ob n xs), M)
    | _ => none
  | _ => Mo.stop
def zipJ : Src → Src → Src
  | .frz xs, .frz ys => .frz (zipL xs ys)
  | s, t => .zip s t
def zipS : List D → Mo Src
  | [d, e] => Mo.bnd (seqS d) fun s => Mo.bnd (seqS e) fun t => Mo.ret (zipJ s t)
  | _ => Mo.stop
def iZ (ms : List XE) : Rho → Mo Src := fun ρ => Mo.bnd (aL ms ρ) zipS
section
variable {X : Cx} {cl : Cl} {E : XK}
variable (X cl) in
def SeqOk (s : Src) (k : Bool) (a : Addr) (W : Wd) : Prop := ∀ W' M' H', W.vle W' → HRel X.K cl W' M' H' → s.ok M' → ∃ vs, SqK X.K k H' a vs ∧ Reps X.K W' s.xs vs
theorem seq_ok {d : D} {v : V} {W : Wd} {M M1 : MS} {H : Hp} {s : Src} (r : Rep X.K W d v) (hH : HRel X.K cl W M H) (e : seqS d M = some (.ok s, M1)) : M1 = M ∧ s.ok M ∧ ∃ a k, v = .ref a ∧ SeqOk X cl s k a W := by
  cases d with
  | tup xs =>
    cases e
    obtain ⟨a, vs, z, sq, q⟩ := r
    exact ⟨rfl, trivial, a, true, z, fun W' M' H' l hH' _ => ⟨vs, sqT_mono hH'.gle (sqT_mono l.g sq.sq), q.upv l⟩⟩
  | lst xs =>
    cases e
    obtain ⟨a, vs, z, sq, q⟩ := r
    exact ⟨rfl, trivial, a, false, z, fun W' M' H' l hH' _ => ⟨vs, .inl (rd_mono hH'.gle (rd_mono l.g sq)), q.upv l⟩⟩
  | scr ns =>
    cases e
    obtain ⟨a, z, sq⟩ := r
    exact ⟨rfl, trivial, a, false, z, fun W' M' H' l hH' _ => ⟨_, sqL_mono hH'.gle (sqL_mono l.g sq), Reps.ofInts ns⟩⟩
  | obj n =>
    have e : (match M[n]? with | some (.lst xs) => some (.ok (.ob n xs), M) | _ => none : Out Src) = some (.ok s, M1) := e
    obtain ⟨a, z, ea⟩ := r
    cases q : M[n]? with
    | none => simp only [q] at e; cases e
    | some mo =>
      simp only [q] at e
      cases mo with
      | lst xs =>
        cases e
        refine ⟨rfl, q, a, false, z, fun W' M' H' l hH' ok => ?_⟩
        obtain ⟨b, eb, _, _, vs, ho, rr⟩ := hH'.obj n _ ok
        rw [l.i _ _ ea] at eb
        have eb := Option.some.inj eb
        subst eb
        exact ⟨vs, .inl (Rd.of ho), rr⟩
      | _ => cases e
  | _ => cases e
theorem seq_err {d : D} {M M1 : MS} {x : Ex} : seqS d M ≠ some (.error x, M1) := by
  cases d with
  | obj n =>
    show (match M[n]? with | some (.lst xs) => some (.ok (.ob n xs), M) | _ => none : Out Src) ≠ _
    split <;> (intro h; cases h)
  | _ => intro h; cases h
theorem srcok_zip {s t : Src} {k1 k2 : Bool} {a b : Addr} {W : Wd} (h1 : SeqOk X cl s k1 a W) (h2 : SeqOk X cl t k2 b W) : SrcOk X cl (.zip s t) (ItzM X.K k1 k2 a b) W where
  stop := fun W' M' H' l hH ok => by
    obtain ⟨us, q1, r1⟩ := h1 W' M' H' l hH ok.1
    obtain ⟨vs, q2, r2⟩ := h2 W' M' H' l hH ok.2
    have e : (Src.zip s t).xs.length = min s.xs.length t.xs.length := List.length_zipWith
    have n1 := r1.length
    have n2 := r2.length
    exact ⟨us, vs, q1, q2, by omega, by omega, by omega⟩
  go := fun i x W' M' H' l hH ok hx => by
    obtain ⟨us, q1, r1⟩ := h1 W' M' H' l hH ok.1
    obtain ⟨vs, q2, r2⟩ := h2 W' M' H' l hH ok.2
    have hx : (List.zipWith (fun x y => D.tup [x, y]) s.xs t.xs)[i]? = some x := hx
    rw [List.getElem?_zipWith] at hx
    cases e1 : s.xs[i]? with
    | none => rw [e1] at hx; cases hx
    | some x1 =>
      cases e2 : t.xs[i]? with
      | none => rw [e1, e2] at hx; cases hx
      | some x2 =>
        rw [e1, e2] at hx
        cases hx
        obtain ⟨u, g1, ru⟩ := r1.get e1
        obtain ⟨v, g2, rv⟩ := r2.get e2
        refine ⟨⟨us, vs, u, v, q1, q2, g1, g2⟩, fun y H2 hy => ?_⟩
        obtain ⟨T, ob, y1, y2, rfl, hob, hn, rfl, f1, f2⟩ := hy
        have f1 := f1 us q1
        have f2 := f2 vs q2
        rw [g1] at f1
        rw [g2] at f2
        cases f1
        cases f2
        obtain ⟨W2, l2, hH2, r2⟩ := hH.mkTup (ds := [x1, x2]) (vs := [u, v]) ⟨u, [v], rfl, ru, v, [], rfl, rv, rfl⟩ hob hn
        exact ⟨W2, l2, r2, hH2⟩
theorem srcok_zipJ {s t : Src} {J : It} {W : Wd} (h : SrcOk X cl (.zip s t) J W) : SrcOk X cl (zipJ s t) J W := by
  cases s with
  | frz xs =>
    cases t with
    | frz ys => exact ⟨fun W' M' H' l hH _ => h.stop W' M' H' l hH ⟨trivial, trivial⟩, fun i x W' M' H' l hH _ hx => h.go i x W' M' H' l hH ⟨trivial, trivial⟩ hx⟩
    | _ => exact h
  | _ => exact h
theorem pdi_zip {a b : Expr} {ma mb : XE} {p pos tp : Pos} {tg : List Expr} {kk : Nat} (hg : Gl X "zip") (hm : X.mg "zip" = none) (ha : PD X cl E a ma) (hb : PD X cl E b mb)
    (hs : starEach [a, b] X.env = [(false, eval a X.env), (false, eval b X.env)] := by rfl) (hs2 : starEach [b] X.env = [(false, eval b X.env)] := by rfl) (hpl : (backTo pos (starEach [b] X.env)).any (·.1) = false := by rfl) :
    PDI X cl E (.Tuple tg kk tp) (.Call (.Name "zip" p) [a, b] [] pos) (iZ [ma, mb]) :=
  PI.imp (pi_zipM hg hm (pda_cons ha (pda_cons hb pda_nil hs2) (by rw [hs, hs2])) (by rw [hs, hs2]) hpl) fun σ H R ⟨ρ, M, W, hρ, hH, hp⟩ => ⟨ρ, M, W, hρ, hH, Post.seqL hp fun ds M1 W1 H1 vs l1 r1 hl hH1 hp1 => by
    match ds, r1, hl, hp1 with
    | [d, e], r1, _, hp1 =>
      obtain ⟨v, us, e1, rv, r2⟩ := r1
      obtain ⟨v2, rfl, rv2⟩ := r2.one_of
      have hp2 : Post X.K cl E (fun W s J => SrcOk X cl s J W) W1 (Mo.bnd (seqS d) (fun s => Mo.bnd (seqS e) fun t => Mo.ret (zipJ s t)) M1) R := hp1
      cases q1 : seqS d M1 with
      | none => unfold Mo.bnd at hp2; rw [q1] at hp2; exact hp2.elim
      | some z =>
        obtain ⟨z, N1⟩ := z
        cases z with
        | error x => exact absurd q1 seq_err
        | ok s =>
          rw [Mo.bnd_of q1] at hp2
          obtain ⟨rfl, ok1, a1, k1, z1, so1⟩ := seq_ok rv hH1 q1
          cases q2 : seqS e N1 with
          | none => unfold Mo.bnd at hp2; rw [q2] at hp2; exact hp2.elim
          | some z =>
            obtain ⟨z, N2⟩ := z
            cases z with
            | error x => exact absurd q2 seq_err
            | ok t =>
              rw [Mo.bnd_of q2] at hp2
              obtain ⟨rfl, ok2, a2, k2, z2, so2⟩ := seq_ok rv2 hH1 q2
              obtain ⟨xs, sx, _⟩ := so1 W1 _ H1 (.refl W1) hH1 ok1
              obtain ⟨ys, sy, _⟩ := so2 W1 _ H1 (.refl W1) hH1 ok2
              exact ⟨k1, k2, a1, a2, xs, ys, by rw [e1, z1, z2], sx, sy, hp2 W1 H1 _ (.refl W1) (srcok_zipJ (srcok_zip so1 so2)) hH1⟩⟩
end
section
variable {M : MS} {QS : Src → MS → Prop} {QU : Unit → MS → Prop} {ρ : Rho}
@[simp ↓] theorem w_iZ {ms : List XE} : wp (iZ ms ρ) M QS = wp (aL ms ρ) M fun d M1 => wp (zipS d) M1 QS := wq_bndE
@[simp ↓] theorem w_zipS {d e : D} : wp (zipS [d, e]) M QS = wp (seqS d) M fun s M1 => wp (seqS e) M1 fun t M2 => QS (zipJ s t) M2 := by
  show wp (Mo.bnd (seqS d) _) M QS = _
  rw [wp_bndE]
  show wq _ _ _ = wq _ _ _
  congr 1; funext s M1
  rw [wp_bndE]
  show wq _ _ _ = wq _ _ _
  congr 1; funext t M2
  exact wp_of rfl
@[simp ↓] theorem w_seqT {xs : List D} : wp (seqS (.tup xs)) M QS = QS (.frz xs) M := wp_of rfl
@[simp ↓] theorem w_seqL {xs : List D} : wp (seqS (.lst xs)) M QS = QS (.frz xs) M := wp_of rfl
theorem w_seqO {n : Nat} {xs : List D} (h : M[n]? = some (.lst xs)) : wp (seqS (.obj n)) M QS = QS (.ob n xs) M := wp_of (by unfold seqS; simp only [h])
@[simp] theorem zipJ_frz {xs ys : List D} : zipJ (.frz xs) (.frz ys) = .frz (zipL xs ys) := rfl
@[simp] theorem zipJ_ob {n : Nat} {xs ys : List D} : zipJ (.frz xs) (.ob n ys) = .zip (.frz xs) (.ob n ys) := rfl
theorem zipL_get {xs ys : List D} {i : Nat} {z : D} (h : (zipL xs ys)[i]? = some z) : ∃ x y, xs[i]? = some x ∧ ys[i]? = some y ∧ z = .tup [x, y] := by
  unfold zipL at h
  rw [List.getElem?_zipWith] at h
  cases e1 : xs[i]? with
  | none => rw [e1] at h; cases h
  | some x =>
    cases e2 : ys[i]? with
    | none => rw [e1, e2] at h; cases h
    | some y => rw [e1, e2] at h; cases h; exact ⟨x, y, rfl, rfl, rfl⟩
@[simp] theorem zipL_len {xs ys : List D} : (zipL xs ys).length = min xs.length ys.length := List.length_zipWith
end
end DL

/-! DL: the law itself, called from the top, where nothing is being shown; repr. -/
namespace DL
open PySem PySem.Spec PyProof.Rows L2
structure LawOk (P : Program) (w : World) (K : PySem.W.Frag) (mg : Str → Option Value) (base : Heap) (f : Addr) (fd : FuncData) (ps : List Str) (sp : Sp) : Prop where
  run : ∀ (s : Shared) (H : Hp) (args : Args) (us : List Value) (vs : List V) (Q : VK) (E : XK), Env0 P w K mg base callerA [] s H → BindsTo s fd args (ps.zip us) → Vals vs us → sp vs H Q E →
    codeAny (model P w) callerA (.call (.ref f) args) (CR (L2.CX P w) [] P w H s Q E) s
section
variable {P : Program} {w : World} {K : PySem.W.Frag} {mg : Str → Option Value} {base : Heap} {cl : Cl}
theorem okLaw {x qual : Str} {params : Arguments} {body : List Stmt} {scope : Scope} {f : Addr} {fd : FuncData} {N ps : List Str} {k : Nat} {m : XS} (Fd : FunD K x qual params body scope [] [] f fd) (S : FnScope N ps scope) (hr : Room (k + 1) callerA)
    (h : ∀ (cdv : Value) (s : Shared) (H : Hp) (E : XK), Room k (callerA.deeper (envOfC qual scope s.heap.objs.size f cdv)) → (callerA.deeper (envOfC qual scope s.heap.objs.size f cdv)).guards = some [] →
      Tk (cxOf (L2.CX P w) P w K mg base N qual scope f cdv callerA [] s H E) E → Ow (cxOf (L2.CX P w) P w K mg base N qual scope f cdv callerA [] s H E) → PDSs (cxOf (L2.CX P w) P w K mg base N qual scope f cdv callerA [] s H E) cl E body m) :
    LawOk P w K mg base f fd ps (spD K cl ps.length (fnB N.length m)) := by
  obtain ⟨oc, od, dV, kV, doc, pm, an, cdv, ct, osl, rfl, lk, hcd, _, _⟩ := Fd.ex
  refine ⟨fun s H args us vs Q E e0 hb r hsp => ?_⟩
  obtain ⟨hl, ds, M, W, rd, hH, hp⟩ := hsp
  have kin : K.In s.heap := e0.mod.kin.keeps fun b o e => (e0.bs b o e).1
  have nolim := e0.mod.nolimit.keeps fun b o e => (e0.bs b o e).1
  refine codeAny_call_function hr.depth (kin _ _ lk) rfl S.co S.gen rfl (PySem.W.codeRec_of kin hcd) (hb _ _ _ _ ?_)
  refine wpAny_newFunctionEnv_cells S.kind (fun ⟨n, v⟩ hy => ?_) fun env he s1 xx => ?_
  · rcases S.par n (List.of_mem_zip hy).1 with q | q
    · exact .inl q
    · exact .inr ⟨q, PySem.W.cellsFrom_some _ _ _ (.inl q)⟩
  · subst he
    refine ⟨nolim.keeps xx.toInCall.keep, codeAny_func ?_⟩
    have hbody := h cdv s H E (hr.deeper _) rfl (takes_of (X := cxOf (L2.CX P w) P w K mg base N qual scope f cdv callerA [] s H E) rfl rfl rfl rfl) (passes_of (X := cxOf (L2.CX P w) P w K mg base N qual scope f cdv callerA [] s H E) rfl)
    have I : Inv (cxOf (L2.CX P w) P w K mg base N qual scope f cdv callerA [] s H E) [] (start N vs) H s1 := inv_start S hr.hd e0 hl r xx
    have want : tS K cl E m { nx := fun _ H' => Q .non H', rt := Q } (start N vs) H := by
      refine ⟨_, M, W, start_rho (N := N) rd, hH, ?_⟩
      unfold fnB Mo.bnd at hp
      cases e : m (ds.map some ++ List.replicate (N.length - ds.length) none) M with
      | none => rw [e] at hp; exact hp.elim
      | some q =>
        rw [e] at hp
        obtain ⟨q, M1⟩ := q
        cases q with
        | error y => exact hp
        | ok fl =>
          intro W1 H1 l1 hH1
          have hp1 : Post K cl E (Rep K) W1 (fnK fl M1) Q := Post.up hp l1
          cases fl with
          | nx ρ => exact fun σ _ => hp1 W1 H1 _ (.refl W1) rfl hH1
          | rt d => exact fun v rv => hp1 W1 H1 v (.refl W1) rv hH1
          | bk ρ => exact hp1.elim
          | ct ρ => exact hp1.elim
    refine wpAny_mono (hbody.run [] s1 (start N vs) H _ I want) (fun fl s' hs => ?_) fun e s' hs => hs
    cases fl with
    | ret u =>
      obtain ⟨v, σ', H', J, rv, q⟩ := hs
      exact ⟨v, H', J.os, J.bare, J.base, J.hok, rv, q⟩
    | next =>
      obtain ⟨σ', H', J, q⟩ := hs
      exact ⟨V.non, H', J.os, J.bare, J.base, J.hok, rfl, q⟩
    | brk => obtain ⟨_, _, _, q⟩ := hs; exact False.elim q
    | cont => obtain ⟨_, _, _, q⟩ := hs; exact False.elim q
/-- the call of the law, from where the top has ended -/
theorem law_callG {mb : Str → Option Value} {fa a : Addr} {fd : FuncData} {x : Str} {sp : Sp} {s₁ : Shared} {vs : List Value} {ns : List Int} (KX : K.In s₁.heap) (hns : s₁.heap.Ns mainGlobals mg) (hb : s₁.heap.Ns builtinsNs mb) (hbb : ∀ x : Str, x ≠ "__name__" → mb x = bootBuiltins x)
    (hlim : s₁.heap.NoLimit) (hg : s₁.gens = #[]) (ha : s₁.heap.get? a = some { cls := .type "list", data := .seq vs.toArray }) (hi : IntsAre vs ns) (hl : ns.length ≤ sizeLine) (F : ∀ base : Heap, K.In base → base.Ns mainGlobals mg → LawOk P w K mg base fa fd [x] sp)
    (hbind : ∀ (s : Shared) (u : Value), BindsTo s fd ⟨[u], []⟩ [(x, u)]) (hsp : ∀ H : Hp, SqL K H a (ns.map V.int) → sp [.ref a] H (fun v _ => v = .bl true) fun _ _ _ => False) (hCX : ∀ H e s', L2.CX P w [] H s₁ (fun _ _ _ => False) e s' → False) :
    codeAny (model P w) callerA (.call (.ref fa) ⟨[.ref a], []⟩) (fun r s' => r = .ok (.ret (.bool true)) ∧ OldK s₁.heap s'.heap ∧ s'.os = s₁.os ∧ AllBare s'.gens) s₁ := by
  have rv := vals_ints hi
  have from_ : ∀ H : Hp, (∀ b, H b = none ∨ ∃ o xs, H b = some (.frz o (.lst xs))) → SqL K H a (ns.map V.int) → HOk P w H s₁.heap → (∀ b, H b ≠ none → b = a) → (H a ≠ none → K.lookup a = none) →
      codeAny (model P w) callerA (.call (.ref fa) ⟨[.ref a], []⟩) (fun r s' => r = .ok (.ret (.bool true)) ∧ OldK s₁.heap s'.heap ∧ s'.os = s₁.os ∧ AllBare s'.gens) s₁ := by
    intro H hO hS hok hA hK
    have bare_of : ∀ {b : Addr} {o : Obj}, s₁.heap.get? b = some o → H b = none → (hidT s₁.heap H).get? b = some o := fun e n => hidT_get e n
    have dicts : ∀ {b : Addr} {o : Obj} {es : Array DictEntry} {ep : Nat}, s₁.heap.get? b = some o → o.data = .dict es ep → H b = none := fun {b o es ep} e d => by
      cases q : H b with
      | none => rfl
      | some u =>
        have e' := hA b (by rw [q]; exact fun z => nomatch z)
        subst e'
        rw [ha] at e
        cases e
        exact nomatch (show Data.seq vs.toArray _ = Data.dict es ep from d)
    have spaces : ∀ {b : Addr} {m : Str → Option Value}, s₁.heap.Ns b m → (hidT s₁.heap H).Ns b m := fun {b m} ⟨o, es, ep, e, d, r⟩ => ⟨o, es, ep, bare_of e (dicts e d), d, r⟩
    have kin : K.In (hidT s₁.heap H) := fun b o e => bare_of (KX b o e) (by
      cases q : H b with
      | none => rfl
      | some u =>
        have e' := hA b (by rw [q]; exact fun z => nomatch z)
        subst e'
        rw [hK (by rw [q]; exact fun z => nomatch z)] at e
        cases e)
    have e0 : Env0 P w K mg (hidT s₁.heap H) callerA [] s₁ H := ⟨rfl, ⟨kin, spaces hns, ⟨mb, spaces hb, hbb⟩, let ⟨mc, h1, h2⟩ := hlim; ⟨mc, spaces h1, h2⟩⟩, fun b o e => of_hidT e, Nat.le_of_eq (hidT_size _ _), trivial, fun b hb => absurd (show b ∈ ([] : List Addr) from hb) (by simp), hok, .of_eq hg⟩
    refine codeAny_mono ((F _ kin (spaces hns)).run s₁ H ⟨[.ref a], []⟩ [.ref a] [.ref a] _ _ e0 (hbind s₁ (.ref a)) (.cons rfl .nil) (hsp H hS)) fun r s' h => ?_
    cases r with
    | error e => exact (hCX H e s' h).elim
    | ok fl =>
      cases fl with
      | ret u =>
        obtain ⟨v, H', os, bare, un, hok', r', q⟩ := h
        obtain rfl : v = .bl true := q
        obtain rfl : u = Value.bool true := r'
        refine ⟨rfl, OldK.of_keep fun b o e => ?_, os, bare⟩
        rcases hO b with z | ⟨ob, xs, z⟩
        · exact un.keep b o e z (fun q => absurd (show b ∈ ([] : List Addr) from q) (by simp)) (by simp)
        · obtain ⟨e1, _⟩ := hok b _ z
          obtain ⟨e2, _⟩ := hok' b _ (un.frzs b ob _ z)
          rw [e] at e1
          cases e1
          exact e2
      | _ => exact False.elim h
  cases hk : K.lookup a with
  | some o =>
    have e := KX a o hk
    rw [ha] at e
    cases e
    exact from_ (fun _ => none) (fun _ => .inl rfl) (.inr ⟨_, vs.toArray, _, hk, rfl, rfl, rfl, by rw [List.size_toArray, hi.length]; exact hl, by simpa using rv⟩) (fun b u z => nomatch (show (none : Option HO) = some u from z)) (fun b z => absurd rfl z) fun z => absurd rfl z
  | none =>
    have at_ : ∀ b, (if b = a then some (HO.frz { cls := .type "list", data := .seq vs.toArray } (.lst (ns.map V.int))) else none) = (none : Option HO) ∨ b = a := fun b => by
      by_cases q : b = a
      · exact .inr q
      · exact .inl (if_neg q)
    refine from_ (fun b => if b = a then some (.frz { cls := .type "list", data := .seq vs.toArray } (.lst (ns.map V.int))) else none) (fun b => (at_ b).imp id fun q => ⟨_, _, if_pos q⟩) (.inl (.inr ⟨_, if_pos rfl⟩)) (fun b u z => ?_) (fun b z => (at_ b).elim (fun q => absurd q z) id) fun _ => hk
    rcases at_ b with q | q
    · exact nomatch (q.symm.trans z : none = some u)
    · have z' := (if_pos q).symm.trans z
      cases z'
      subst q
      exact ⟨ha, by rw [List.length_map]; exact hl, vs, _, rv, ha⟩
end
/-! ### repr -/
section
variable {X : Cx} {pins : List (Addr × Obj)} {σ : L2.St} {H : Hp} {s : Shared} {W : Wd}
mutual
theorem reads_of (I : Inv X pins σ H s) (hg : ∀ a o, W.G a = some o → H a = some o) : ∀ (d : D) (v : V) (u : Value) (p : PyData), Rep X.K W d v → RelV v u → toPy d = some p → ∃ as, Reads s.heap u p as
  | .non, _, _, _, r, ru, h => by
    cases h
    rw [show _ = V.non from r] at ru
    rw [show _ = Value.none from ru]
    exact ⟨_, .none⟩
  | .bl b, _, _, _, r, ru, h => by
    cases h
    rw [show _ = V.bl b from r] at ru
    rw [show _ = Value.bool b from ru]
    exact ⟨_, .bool b⟩
  | .int i, _, _, _, r, ru, h => by
    cases h
    rw [show _ = V.int i from r] at ru
    obtain ⟨t, rfl⟩ := ru
    exact ⟨_, .int i t⟩
  | .str x, _, _, _, r, ru, h => by
    cases h
    rw [show _ = V.str x from r] at ru
    obtain ⟨t, rfl⟩ := ru
    exact ⟨_, .str x t⟩
  | .tup ds, _, _, _, ⟨a, vs, e, sq, q⟩, ru, h => by
    subst e
    rw [show _ = Value.ref a from ru]
    obtain ⟨ps, e, rfl⟩ := Option.map_eq_some_iff.mp (show (toPys ds).map PyData.tuple = some _ from h)
    obtain ⟨its, rv, ⟨o, ho, hc, n, hd⟩, hz⟩ := I.tuple (sqT_mono hg sq.sq)
    obtain ⟨as, ra⟩ := readss_of I hg ds vs _ ps q rv e
    exact ⟨_, .tuple ho hc hd ra⟩
  | .lst ds, _, _, _, ⟨a, vs, e, sq, q⟩, ru, h => by
    subst e
    rw [show _ = Value.ref a from ru]
    obtain ⟨ps, e, rfl⟩ := Option.map_eq_some_iff.mp (show (toPys ds).map PyData.list = some _ from h)
    obtain ⟨its, rv, ⟨o, n, ho, hc, _, hd⟩, hz⟩ := I.list (.inl (rd_mono hg sq))
    obtain ⟨as, ra⟩ := readss_of I hg ds vs _ ps q rv e
    exact ⟨_, .list ho hc hd ra⟩
  | .emp, _, _, _, _, _, h => nomatch h
  | .scr _, _, _, _, _, _, h => nomatch h
  | .obj _, _, _, _, _, _, h => nomatch h
theorem readss_of (I : Inv X pins σ H s) (hg : ∀ a o, W.G a = some o → H a = some o) : ∀ (ds : List D) (vs : List V) (us : List Value) (ps : List PyData), Reps X.K W ds vs → Vals vs us → toPys ds = some ps → ∃ as, ReadsAll s.heap us ps as
  | [], _, _, _, r, ru, h => by
    cases h
    rw [show _ = [] from r] at ru
    cases ru
    exact ⟨_, .nil⟩
  | d :: ds, _, _, _, ⟨v, r', e, r1, r2⟩, ru, h => by
    subst e
    cases ru with
    | cons h1 t =>
      unfold toPys at h
      cases e1 : toPy d with
      | none => simp [e1] at h
      | some p =>
        cases e2 : toPys ds with
        | none => simp [e1, e2] at h
        | some ps =>
          simp only [e1, e2, Option.some.injEq] at h
          subst h
          obtain ⟨as, ra⟩ := reads_of I hg d v _ p r1 h1 e1
          obtain ⟨bs, rb⟩ := readss_of I hg ds r' _ ps r2 t e2
          exact ⟨_, .cons ra rb⟩
end
mutual
theorem noDict_py : ∀ (d : D) (p : PyData), toPy d = some p → p.hasDict = false
  | .non, _, h => by cases h; rfl
  | .bl _, _, h => by cases h; rfl
  | .int _, _, h => by cases h; rfl
  | .str _, _, h => by cases h; rfl
  | .tup ds, _, h => by
    obtain ⟨ps, e, rfl⟩ := Option.map_eq_some_iff.mp (show (toPys ds).map PyData.tuple = some _ from h)
    rw [PyData.hasDict]; exact noDict_pys ds ps e
  | .lst ds, _, h => by
    obtain ⟨ps, e, rfl⟩ := Option.map_eq_some_iff.mp (show (toPys ds).map PyData.list = some _ from h)
    rw [PyData.hasDict]; exact noDict_pys ds ps e
  | .emp, _, h => nomatch h
  | .scr _, _, h => nomatch h
  | .obj _, _, h => nomatch h
theorem noDict_pys : ∀ (ds : List D) (ps : List PyData), toPys ds = some ps → PyData.hasDictAll ps = false
  | [], _, h => by cases h; rfl
  | d :: ds, _, h => by
    unfold toPys at h
    cases e1 : toPy d with
    | none => simp [e1] at h
    | some p =>
      cases e2 : toPys ds with
      | none => simp [e1, e2] at h
      | some ps =>
        simp only [e1, e2, Option.some.injEq] at h
        subst h
        rw [PyData.hasDictAll, noDict_py d p e1, noDict_pys ds ps e2]; rfl
end
end
def reprOk (p : PyData) : Bool := p.showable && decide (p.depth ≤ 60) && decide (p.shown.length ≤ sizeLine)
def reprD : List D → Mo D
  | [.emp] => Mo.ret (.str "{}")
  | [d] => (match toPy d with
    | some p => if reprOk p = true then Mo.ret (.str p.shown) else Mo.stop
    | none => Mo.stop)
  | _ => Mo.stop
section
variable {X : Cx} {cl : Cl} {E : XK}
theorem call_repr_py (hgd : X.A.guards = some []) (hu : X.A.units + 100 < cLine) : CallR X (.builtin "repr") (fun vs H Q => ∃ d v W p, vs = [v] ∧ Rep X.K W d v ∧ (∀ a o, W.G a = some o → H a = some o) ∧ toPy d = some p ∧ reprOk p = true ∧ Q (.str p.shown) H) := by
  intro pins s σ H vs us Q I r ⟨d, v, W, p, e, rv, hg, hp, ok, q⟩
  subst e
  obtain ⟨u, rfl, ru⟩ := r.one
  have ok2 := Bool.and_eq_true_iff.mp ok
  have ok3 := Bool.and_eq_true_iff.mp ok2.1
  have hz := of_decide_eq_true ok2.2
  obtain ⟨as, ra⟩ := reads_of I hg d v u p rv ru hp
  cases d with
  | non =>
    cases hp
    rw [show v = _ from rv] at ru
    rw [show u = _ from ru]
    exact PySem.P.repr_of_none ⟨.str "None", H, I.tok _, ⟨_, rfl⟩, q⟩
  | bl b =>
    cases hp
    rw [show v = _ from rv] at ru
    rw [show u = _ from ru]
    exact PySem.P.repr_of_bool ⟨.str (PyData.bool b).shown, H, I.tok _, ⟨_, rfl⟩, q⟩
  | int i =>
    cases hp
    rw [show v = _ from rv] at ru
    obtain ⟨t, rfl⟩ := ru
    exact PySem.P.repr_of_int (of_decide_eq_true ok3.1) ⟨.str (PyData.int i).shown, H, I.tok _, ⟨_, rfl⟩, q⟩
  | str x =>
    cases hp
    rw [show v = _ from rv] at ru
    obtain ⟨t, rfl⟩ := ru
    exact PySem.P.repr_of_str ⟨.str (PyData.str x).shown, H, I.tok _, ⟨_, rfl⟩, q⟩ hz
  | tup ds =>
    obtain ⟨a, vs, e, _⟩ := rv
    rw [e] at ru
    cases ru
    exact repr_of_reads' ra ok3.1 (fun z => by rw [noDict_py _ _ hp] at z; cases z) hgd (by have := of_decide_eq_true ok3.2; omega) (fun _ _ h => h) (fun h' t tk hk => ⟨.str _, H, I.kept hk, ⟨_, rfl⟩, q⟩) hz
  | lst ds =>
    obtain ⟨a, vs, e, _⟩ := rv
    rw [e] at ru
    cases ru
    exact repr_of_reads' ra ok3.1 (fun z => by rw [noDict_py _ _ hp] at z; cases z) hgd (by have := of_decide_eq_true ok3.2; omega) (fun _ _ h => h) (fun h' t tk hk => ⟨.str _, H, I.kept hk, ⟨_, rfl⟩, q⟩) hz
  | _ => cases hp
theorem call_repr_emp (hgd : X.A.guards = some []) (hu : X.A.units + 100 < cLine) : CallR X (.builtin "repr") (fun vs H Q => ∃ a, vs = [.ref a] ∧ H a = some (.dK []) ∧ Q (.str "{}") H) := by
  intro pins s σ H vs us Q I r ⟨a, e, ha, q⟩
  subst e
  obtain ⟨u, rfl, ru⟩ := r.one
  cases ru
  obtain ⟨_, hs, vs, rel, o, es, ep, h1, h2, h3, h4, h5, h6⟩ := dk_of I.hok ha
  have hv : vs = [] := List.length_eq_zero_iff.mp (Paired.length rel).symm
  subst hv
  have he : es.toList = [] := by cases hq : es.toList <;> first | rfl | (rw [hq] at h5; cases h5)
  have ra : Reads s.heap (.ref a) (.dict []) (a :: [] ++ []) := .dict h1 h2.1 h3 (by rw [he]; exact .nil) (by rw [he]; exact .nil)
  exact repr_of_reads' ra (by rfl) (fun _ z => by
    have : sysModules = a := by simpa using z
    rw [← this] at hs
    simp at hs) hgd (by show X.A.units + (PyData.depth (.dict []) + 1) < cLine; have : PyData.depth (.dict []) ≤ 60 := by decide
                        omega) (fun _ _ h => h) (fun h' t tk hk => ⟨.str _, H, I.kept hk, ⟨_, rfl⟩, q⟩) (by decide)
theorem cd_repr (hgd : X.A.guards = some []) (hu : X.A.units + 100 < cLine) : CallD X cl E (.builtin "repr") reprD := CallR.imp ((call_repr_py hgd hu).or (call_repr_emp hgd hu)) fun vs H Q ⟨ds, M, W, r, hH, hp⟩ => by
  match ds, r, hp with
  | [d], r, hp =>
    obtain ⟨v, rfl, r1⟩ := r.one_of
    by_cases c : d = .emp
    · subst c
      obtain ⟨a, z, s⟩ := r1
      exact .inr ⟨a, by rw [z], hH.gle _ _ s, hp W H _ (.refl W) rfl hH⟩
    · have hp : Post X.K cl E (Rep X.K) W ((match toPy d with | some p => if reprOk p = true then Mo.ret (.str p.shown) else Mo.stop | none => Mo.stop : Mo D) M) Q := by
        cases d <;> first | exact absurd rfl c | exact hp
      cases e : toPy d with
      | none => rw [e] at hp; exact hp.elim
      | some p =>
        simp only [e] at hp
        by_cases c2 : reprOk p = true
        · rw [if_pos c2] at hp
          exact .inl ⟨d, v, W, p, rfl, r1, hH.gle, e, c2, hp W H _ (.refl W) rfl hH⟩
        · rw [if_neg c2] at hp; exact hp.elim
  | [], _, hp => exact hp.elim
  | d :: _ :: _, _, hp => cases d <;> exact hp.elim
end
end DL

/-! DL: texts in order; sets of texts, made by a comprehension with two fors, and sorted. -/
namespace DL
open PySem PySem.Spec PyProof.Rows L2 PySem.Froz
/-! ### texts in order -/
def leS (a b : Str) : Bool := !ltCps b.cps.toList a.cps.toList
theorem leS_iff {a b : Str} : leS a b = true ↔ a.cps.toList ≤ b.cps.toList := by
  unfold leS
  rw [ltCps_eq]
  simp [List.not_lt]
theorem leS_trans {a b c : Str} (h : leS a b = true) (k : leS b c = true) : leS a c = true := leS_iff.mpr (List.le_trans (leS_iff.mp h) (leS_iff.mp k))
theorem leS_total (a b : Str) : leS a b = true ∨ leS b a = true := by
  rcases List.le_total a.cps.toList b.cps.toList with h | h
  · exact .inl (leS_iff.mpr h)
  · exact .inr (leS_iff.mpr h)
theorem leS_anti {a b : Str} (h : leS a b = true) (k : leS b a = true) : a = b := by
  have e : a.cps.toList = b.cps.toList := List.le_antisymm (leS_iff.mp h) (leS_iff.mp k)
  cases a; cases b
  congr 1
  exact Array.ext' e
def insS (x : Str) : List Str → List Str
  | [] => [x]
  | y :: r => if leS x y = true then x :: y :: r else y :: insS x r
def srtS : List Str → List Str
  | [] => []
  | x :: r => insS x (srtS r)
theorem insS_perm (x : Str) : ∀ l : List Str, (insS x l).Perm (x :: l)
  | [] => .refl _
  | y :: r => by
    unfold insS
    split
    · exact .refl _
    · exact ((insS_perm x r).cons y).trans (.swap x y r)
theorem srtS_perm : ∀ l : List Str, (srtS l).Perm l
  | [] => .refl _
  | x :: r => (insS_perm x (srtS r)).trans ((srtS_perm r).cons x)
abbrev Asc (l : List Str) : Prop := l.Pairwise fun a b => leS a b = true
theorem insS_asc {x : Str} : ∀ {l : List Str}, Asc l → Asc (insS x l)
  | [], _ => List.pairwise_singleton _ _
  | y :: r, h => by
    obtain ⟨h1, h2⟩ := List.pairwise_cons.mp h
    unfold insS
    split
    · rename_i c
      refine List.pairwise_cons.mpr ⟨fun z hz => ?_, h⟩
      rcases List.mem_cons.mp hz with rfl | hz
      · exact c
      · exact leS_trans c (h1 z hz)
    · rename_i c
      refine List.pairwise_cons.mpr ⟨fun z hz => ?_, insS_asc h2⟩
      rcases List.mem_cons.mp ((insS_perm x r).mem_iff.mp hz) with rfl | hz
      · exact (leS_total z y).resolve_left c
      · exact h1 z hz
theorem srtS_asc : ∀ l : List Str, Asc (srtS l)
  | [] => .nil
  | _ :: r => insS_asc (srtS_asc r)
theorem asc_uniq : ∀ {l m : List Str}, l.Perm m → Asc l → Asc m → l = m
  | [], m, p, _, _ => (List.nil_perm.mp p).symm
  | x :: l, [], p, _, _ => by have := p.length_eq; simp at this
  | x :: l, y :: m, p, h, k => by
    obtain ⟨h1, h2⟩ := List.pairwise_cons.mp h
    obtain ⟨k1, k2⟩ := List.pairwise_cons.mp k
    have e : x = y := by
      have hx : x ∈ y :: m := p.mem_iff.mp List.mem_cons_self
      have hy : y ∈ x :: l := p.mem_iff.mpr List.mem_cons_self
      rcases List.mem_cons.mp hx with e | hx
      · exact e
      · rcases List.mem_cons.mp hy with e | hy
        · exact e.symm
        · exact leS_anti (h1 y hy) (k1 x hx)
    subst e
    rw [asc_uniq (List.perm_cons x |>.mp p) h2 k2]
theorem asc_of_rising : ∀ (p : Str) (l : List Str), risingS p l = true → Asc (p :: l)
  | _, [], _ => List.pairwise_singleton _ _
  | p, x :: r, h => by
    have h2 := Bool.and_eq_true_iff.mp (show (!ltCps x.cps.toList p.cps.toList && risingS x r) = true from h)
    have ih := asc_of_rising x r h2.2
    refine List.pairwise_cons.mpr ⟨fun z hz => ?_, ih⟩
    rcases List.mem_cons.mp hz with rfl | hz
    · exact h2.1
    · exact leS_trans h2.1 ((List.pairwise_cons.mp ih).1 z hz)
theorem sorted_is {ys xs : List Str} (p : ys.Perm xs) (h : sortedS ys = true) : ys = srtS xs := by
  have a : Asc ys := by
    cases ys with
    | nil => exact .nil
    | cons y r => exact asc_of_rising y r h
  exact asc_uniq (p.trans (srtS_perm xs).symm) a (srtS_asc xs)
/-- a text put in, if it is not there -/
def putS (l : List Str) (k : Str) : List Str := if k ∈ l then l else k :: l
def setS (l : List Str) : List Str := l.foldl putS []
theorem putS_nodup {l : List Str} {k : Str} (h : l.Nodup) : (putS l k).Nodup := by
  unfold putS
  split
  · exact h
  · exact List.nodup_cons.mpr ⟨by assumption, h⟩
theorem putS_mem {l : List Str} {k j : Str} : j ∈ putS l k ↔ j ∈ l ∨ j = k := by
  unfold putS
  split
  · constructor
    · exact .inl
    · rintro (h | rfl) <;> assumption
  · rw [List.mem_cons]; exact Or.comm
/-! ### a set of texts -/
def keyT (e : Int × Value) : Str := match e.2 with
  | .str k _ => k
  | _ => Str.empty
def SetTx (P : Program) (w : World) (a : Addr) (l : List Str) : Heap → Prop := fun h => ∃ z : SD, h.get? a = some (sObj "set" z) ∧ TxOk P w z l ∧ (z.1.toList.map keyT).Perm l ∧ Ris z.2.2.place.toList ∧ (w.params.followText "set-order" = true ∨ z.2.2.led = true)
def SetHO (P : Program) (w : World) (a : Addr) (l : List Str) : HO := .ext (SetTx P w a l)
theorem setTx_obj {P : Program} {w : World} {H : Hp} {h : Heap} {a : Addr} {l : List Str} (q : SetTx P w a l h) : ObjOk P w H h a (SetHO P w a l) := by
  have ⟨z, e, _⟩ := q
  exact ⟨q, ⟨_, e⟩, fun h1 h2 ⟨z, e, r⟩ k => ⟨z, k _ e, r⟩⟩
section
variable {P : Program} {w : World} {A : Around} {E : Value → Shared → Prop} {s : Shared}
theorem tailTx_more {ep : Nat} {es : Array (Int × Value)} {t : SetTable} {b : Bool} (r : Ris t.place.toList) : ((tailTx ep es t b).1.toList.map keyT).Perm (es.toList.map keyT) ∧ Ris (tailTx ep es t b).2.2.place.toList ∧ (tailTx ep es t b).2.2.led = t.led := by
  unfold tailTx
  split
  · exact ⟨(relayAll_perm t es _).map keyT, relayAll_ris t es _, relayAll_led t es _⟩
  · exact ⟨.refl _, r, rfl⟩
theorem addTx_more {h : Int} {k : Str} {u : Tok} {z : SD} (r : Ris z.2.2.place.toList) : ((addTx h (.str k u) z).1.toList.map keyT).Perm (k :: z.1.toList.map keyT) ∧ Ris (addTx h (.str k u) z).2.2.place.toList ∧ (addTx h (.str k u) z).2.2.led = z.2.2.led := by
  have p := (layNew_perm z.2.2 z.1 h (.str k u)).map keyT
  have r1 := layNew_ris z.2.2 z.1 h (.str k u) r
  have l1 := layNew_led z.2.2 z.1 h (.str k u)
  unfold addTx
  have r2 : Ris (if (layNew z.2.2 z.1 h (.str k u)).2.1.plain = true then { (layNew z.2.2 z.1 h (.str k u)).2.1 with plain := false } else (layNew z.2.2 z.1 h (.str k u)).2.1).place.toList := by split <;> exact r1
  have l2 : (if (layNew z.2.2 z.1 h (.str k u)).2.1.plain = true then { (layNew z.2.2 z.1 h (.str k u)).2.1 with plain := false } else (layNew z.2.2 z.1 h (.str k u)).2.1).led = z.2.2.led := by split <;> exact l1
  obtain ⟨a1, a2, a3⟩ := tailTx_more (ep := z.2.1) (es := (layNew z.2.2 z.1 h (.str k u)).1) (b := (layNew z.2.2 z.1 h (.str k u)).2.2.1) r2
  refine ⟨a1.trans (p.trans ?_), a2, a3.trans l2⟩
  rw [Array.toList_push, List.map_append]
  exact List.perm_append_singleton _ _
theorem there_x {a : Addr} {z : SD} {l : List Str} {k : Str} {u : Tok} {Q : Bool → Shared → Prop} (ho : s.heap.get? a = some (sObj "set" z)) (F : TxOk P w z l) (hk : k ∈ l) (hb : l.length < scanBound) (h : Q false s) : wpAny (model P w) A (setAddHashed a (.str k u) (hashStr w k)) Q E s := by
  obtain ⟨es, ep, t⟩ := z
  have hel : ElemsOf (strKind P w) es.toList := F.el
  have hsz : es.size = l.length := F.sz
  have hf : t.fits es.size = true := F.fit
  have hkey : (strKind P w).is k (.str k u) = true := is_str k u
  unfold setAddHashed setAddHashedIn
  refine wpAny_holding (wpAny_bind (wpAny_setState_of ho rfl hf ?_))
  dsimp only
  rw [byScan_of rfl (by omega) hel]
  simp only [↓reduceIte]
  unfold setAddByScan
  refine wpAny_bind ?_
  refine wpAny_bind (wpAny_rule (wpAny_bind (wpAny_setScan_of (knd := strKind P w) (k := k) hkey ho rfl hf hel ?_)))
  cases hfi : List.findIdx? (fun e => (strKind P w).is k e.2) es.toList with
  | none =>
    obtain ⟨e, he, q⟩ := (F.mem k).mp hk
    have c := List.findIdx?_eq_none_iff.mp hfi e he
    rw [q] at c
    cases c
  | some j =>
    dsimp only
    exact wpAny_pure (wpAny_pure h)
/-- s.add(k) -/
theorem setTx_add {a : Addr} {l : List Str} {k : Str} {u : Tok} {Q : Value → Shared → Prop} (R : SetTx P w a l s.heap) (room : l.length + 1 < scanBound) (hQ : ∀ h', Heap.SameBut a s.heap h' → SetTx P w a (putS l k) h' → Q .none { s with heap := h', toks := s.toks + 1 }) :
    wpAny (model P w) A (call (.builtin "set.add") [.ref a, .str k u]) Q E s := by
  have R' := R
  obtain ⟨z, ho, F, pm, rs, ld⟩ := R
  refine wpAny_call_entry PySem.F.slot_set_add (show s.TypeIs (.ref a) "set" from ⟨_, ho, rfl⟩) PySem.F.entry_set_add ?_ (PySem.F.args_set_add_2 _ _)
  unfold Builtin.«set.add» Builtin.Frozenset.oneOther
  simp only [List.isEmpty_nil, bind_assoc]
  unfold Builtin.Frozenset.addrOf setAdd
  refine wpAny_bind (wpAny_pure ?_)
  try dsimp only
  refine wpAny_bind (wpAny_pure ?_)
  try dsimp only
  refine wpAny_bind (wpAny_holding (wpAny_bind ((strKind P w).pyHash (is_str k u) ?_)))
  by_cases c : k ∈ l
  · refine there_x (s := { s with toks := s.toks + 1 }) ho F c (by omega) ?_
    show wpAny _ _ (ret Value.none) _ _ _
    refine wpAny_pure ⟨_, rfl, hQ s.heap (Heap.SameBut.refl a s.heap) ?_⟩
    unfold putS
    rw [if_pos c]
    exact R'
  · refine add_x (s := { s with toks := s.toks + 1 }) ho F c room ?_
    show wpAny _ _ (ret Value.none) _ _ _
    obtain ⟨a1, a2, a3⟩ := addTx_more (h := hashStr w k) (k := k) (u := u) rs
    refine wpAny_pure ⟨_, rfl, hQ _ (Heap.SameBut.update s.heap a _) ⟨_, get_upd _ ho rfl, ?_, ?_, a2, ld.imp id fun q => by rw [a3]; exact q⟩⟩
    · unfold putS
      rw [if_neg c]
      exact add_ok u F
    · unfold putS
      rw [if_neg c]
      exact a1.trans (pm.cons k)
theorem setTx_fresh {h : Heap} : SetTx P w h.objs.size [] (h.push { cls := .type "set", dict := none, data := .set #[] 0 (.fresh 0 0 (!w.params.followText "set-order")) }) :=
  ⟨(#[], 0, .fresh 0 0 (!w.params.followText "set-order")), Heap.get?_push_size _ rfl, TxOk.nil (by rfl), .refl _, List.Pairwise.nil, by
    show _ ∨ (!w.params.followText "set-order") = true
    cases w.params.followText "set-order" <;> simp⟩
/-- sorted(s) -/
theorem setTx_sorted {a : Addr} {l : List Str} {Q : Value → Shared → Prop} (R : SetTx P w a l s.heap) (hh : A.handled = none) (h64 : l.length < 64)
    (hQ : ∀ s' p (out : Array Value) (c : Nat), (∀ b o, s.heap.get? b = some o → s'.heap.get? b = some o) → s'.gens = s.gens → s'.os = s.os → s.heap.objs.size ≤ p → s'.heap.get? p = some (seqObj "list" out c) → StrsAre out.toList (srtS l) → Q (.ref p) s') :
    wpAny (model P w) A (call (.builtin "sorted") [.ref a]) Q E s := by
  obtain ⟨⟨es, ep, t⟩, ho, F, pm, rs, ld⟩ := R
  have hsz : es.size = l.length := F.sz
  have hsb : es.size < scanBound := by rw [hsz]; exact Nat.lt_trans h64 (by decide)
  refine Calls.call_function_entry kind_sorted plain_sorted entry_sorted (args_sorted1 _) ?_
  unfold Builtin.«sorted»
  refine wpAny_bind (m := checkCount "sorted" 1 1 _) (wpAny_pure ?_)
  refine wpAny_bind (collect_set (A := A.in1) hh ⟨_, ho, rfl, rfl⟩ F.fit hsb rs ld fun s1 vs k1 hz g1 o1 pv => ?_)
  have hvl : vs.length = l.length := by rw [pv.length_eq, List.length_map, Array.length_toList]; exact hsz
  have key : ∀ us : List Value, (∀ v ∈ us, ∃ x u, v = Value.str x u) → StrsAre us (us.map fun v => keyT (0, v)) := by
    intro us
    induction us with
    | nil => intro _; exact .nil
    | cons v us ih =>
      intro hv
      obtain ⟨x, u, rfl⟩ := hv v List.mem_cons_self
      exact .cons x u (ih fun v hv' => hv v (List.mem_cons_of_mem _ hv'))
  have hst : StrsAre vs (vs.map fun v => keyT (0, v)) := key vs fun v hv => by
    obtain ⟨e, he, q⟩ := List.mem_map.mp (pv.mem_iff.mp hv)
    obtain ⟨⟨k, hk, _⟩, _⟩ := F.el e he
    rw [← q]
    have hk2 : Value.isStrOf k e.2 = true := hk
    cases h2 : e.2 with
    | str x u => exact ⟨x, u, rfl⟩
    | _ => rw [h2] at hk2; exact absurd hk2 (by simp [Value.isStrOf])
  have pk : (vs.map fun v => keyT (0, v)).Perm l := by
    have q := pv.map fun v => keyT (0, v)
    rw [List.map_map] at q
    exact q.trans pm
  refine wpAny_bind (wpAny_newList ?_ (by rw [hvl]; exact Nat.le_trans (Nat.le_of_lt h64) (by decide)))
  have hoL : (s1.heap.push (seqObj "list" vs.toArray 0)).get? s1.heap.objs.size = some (seqObj "list" vs.toArray 0) := Heap.get?_push_size _ rfl
  refine wpAny_bind (wpAny_holding (wpAny_call_entry slot_list_sort ⟨_, hoL, rfl⟩ entry_list_sort (list_sort_treeK strKind_oneLt hoL hst.keysOf (fun v₁ v₂ rest e => keyKind_strs (by rw [← e]; exact hst)) (by rw [hvl]; exact h64) fun st' hp hs => ⟨_, rfl, ?_⟩) (args_list_sort _)))
  obtain ⟨ys, g1', g2, g3⟩ := sorted_out_str hst hp hs
  rw [sorted_is (g2.trans pk) g3] at g1'
  obtain ⟨c, hc⟩ := sortedHeap_at (vs := vs) (out := (arrOf st').map (·.2)) hoL
  refine wpAny_pure ⟨_, rfl, hQ _ s1.heap.objs.size _ c (fun b u e => ?_) g1 o1 hz hc g1'⟩
  have q := k1 b u e
  have hlt := Heap.lt_size q
  show (sortedHeap (s1.heap.push (seqObj "list" vs.toArray 0)) s1.heap.objs.size vs ((arrOf st').map (·.2))).get? b = some u
  rw [sortedHeap_old (Nat.ne_of_lt hlt) (by rw [size_push']; exact Nat.lt_succ_of_lt hlt)]
  exact Heap.get?_push_of_some _ q
end
section
variable {X : Cx}
theorem setHO_add {pins : List (Addr × Obj)} {σ : L2.St} {H : Hp} {s : Shared} {E : Value → Shared → Prop} {a : Addr} {l : List Str} {k : Str} {u : Tok} {Q : Value → Shared → Prop} (I : Inv X pins σ H s) (ha : H a = some (SetHO X.prog X.w a l)) (room : l.length + 1 < scanBound)
    (h : ∀ s', Inv X pins σ (upd H a (SetHO X.prog X.w a (putS l k))) s' → Q .none s') : wpAny (model X.prog X.w) X.A (call (.builtin "set.add") [.ref a, .str k u]) Q E s := by
  obtain ⟨R, _, _⟩ := I.hok a _ ha
  refine setTx_add R room fun h' sb new => ?_
  have ⟨z, e, _⟩ := new
  exact h _ (I.write (e := a) (t' := s.toks + 1) (by rw [ha]; trivial) (.inl rfl) (fun b ob hb hu => (sb.2 b hb).trans hu) ⟨_, e⟩ (setTx_obj new))
theorem cr_sortedTx (hc : X.calm = true) : CallR X (.builtin "sorted") (fun vs H Q => ∃ a l, vs = [V.ref a] ∧ H a = some (SetHO X.prog X.w a l) ∧ l.length < 64 ∧ ∀ p, H p = none → Q (.ref p) (upd H p (.lst ((srtS l).map V.str)))) := by
  intro pins s σ H vs us Q I r h
  obtain ⟨a, l, rfl, ha, h64, q⟩ := h
  obtain ⟨R, _, _⟩ := I.hok a _ ha
  rw [Vals.ref1 r]
  refine setTx_sorted R (I.ok.hd hc) h64 fun s' p out c k g o hp hg hi => ?_
  have hlen : ((srtS l).map V.str).length ≤ sizeLine := by
    rw [List.length_map, (srtS_perm l).length_eq]
    exact Nat.le_trans (Nat.le_of_lt h64) (by decide)
  have hn : H p = none := I.hok.fresh hp
  have J : Inv X pins σ (upd H p (.lst ((srtS l).map V.str))) { s with heap := s'.heap, gens := s'.gens, drawn := s'.drawn, toks := s'.toks } :=
    I.call (ch := []) (Un.laid k hp hn) (I.hok.laid k hp ⟨hlen, out.toList, c, vals_of_strs hi, hg⟩) (by rw [g]; exact I.bare) (fun _ z => nomatch z)
  have e : s' = { s with heap := s'.heap, gens := s'.gens, drawn := s'.drawn, toks := s'.toks } := by
    cases s'
    cases s
    cases o
    rfl
  rw [e]
  exact ⟨.ref p, _, J, rfl, q p hn⟩
end
end DL

/-! DL: {e for x in a if .. for y in b if ..}, e a text. -/
namespace DL
open PySem PySem.Spec PyProof.Rows L2 PySem.Froz
theorem scTurn_out (el t0 i0 t1 i1 : Expr) (cs0 cs1 : List Expr) (sco : Scope) (ps : Pos) (itr0 ac : Value) (en : Env) :
    compTurn (.SetComp el [⟨t0, i0, cs0, 0⟩, ⟨t1, i1, cs1, 0⟩] sco ps) 0 itr0 ac en = (do
      standAt i0.pos
      match ← pyNext itr0 with
      | none => pure (.done .next)
      | some v =>
        letOwnedTupleGo t0 itr0 v
        assign t0 en v
        let mut ok := true
        for c in cs0 do
          if ok then ok ← isTrue c en (eval c en)
        if ok then
          let x ← eval i1 en
          standAt i1.pos
          let x ← foldedSetIterable i1 en x
          let _ ← runOwn (.compStart (.SetComp el [⟨t0, i0, cs0, 0⟩, ⟨t1, i1, cs1, 0⟩] sco ps) 1 (← holding [x] (pyIter x)) ac en) en
        again (.compLoop (.SetComp el [⟨t0, i0, cs0, 0⟩, ⟨t1, i1, cs1, 0⟩] sco ps) 0 itr0 ac en)) := by rfl
theorem scTurn_in (el t0 i0 t1 i1 : Expr) (cs0 cs1 : List Expr) (sco : Scope) (ps : Pos) (itr0 ac : Value) (en : Env) :
    compTurn (.SetComp el [⟨t0, i0, cs0, 0⟩, ⟨t1, i1, cs1, 0⟩] sco ps) 1 itr0 ac en = (do
      standAt i1.pos
      match ← pyNext itr0 with
      | none => pure (.done .next)
      | some v =>
        letOwnedTupleGo t1 itr0 v
        assign t1 en v
        let mut ok := true
        for c in cs1 do
          if ok then ok ← isTrue c en (eval c en)
        if ok then
          (do let v ← eval el en; standAt el.pos; let _ ← call (.builtin "set.add") [ac, v])
        again (.compLoop (.SetComp el [⟨t0, i0, cs0, 0⟩, ⟨t1, i1, cs1, 0⟩] sco ps) 1 itr0 ac en)) := by rfl

section
variable {prog : Program} {w : World} {A : Around} {R : Result → Shared → Prop} {s : Shared} {el t0 i0 t1 i1 : Expr} {cs0 cs1 : List Expr} {sco : Scope} {ps : Pos} {itr0 ac : Value} {en : Env}
theorem scLoop_out (hfs : ∀ x, foldedSetIterable i1 en x = pure x) (I : Nat → Shared → Prop)
    (tn_ : ∀ n s, I n s → wpAny (model prog w) A (pyNext itr0) (fun r sa => match r with
      | none => R (.ok .next) sa
      | some v => wpAny (model prog w) A (letOwnedTupleGo t0 itr0 v) (fun _ sb => wpAny (model prog w) A (assign t0 en v) (fun _ sc =>
          wpAny (model prog w) A (forIn cs0 true fun c r => if r = true then do let ok ← isTrue c en (eval c en); pure (ForInStep.yield ok) else pure (ForInStep.yield r)) (fun ok sd =>
            if ok = true then wpAny (model prog w) A (eval i1 en) (fun x se => wpAny (model prog w) A (pyIter x) (fun itr1 sf =>
              codeAny (model prog w) A (.compStart (.SetComp el [⟨t0, i0, cs0, 0⟩, ⟨t1, i1, cs1, 0⟩] sco ps) 1 itr1 ac en) (fun r s' => match r with
                | .ok _ => ∃ m, m < n ∧ I m s'
                | .error _ => False) sf) (notedBy (model prog w) A en fun e s' => R (.error e) s') se) (notedBy (model prog w) A en fun e s' => R (.error e) s') sd
            else ∃ m, m < n ∧ I m sd) (notedBy (model prog w) A en fun e s' => R (.error e) s') sc) (notedBy (model prog w) A en fun e s' => R (.error e) s') sb) (notedBy (model prog w) A en fun e s' => R (.error e) s') sa) (notedBy (model prog w) A en fun e s' => R (.error e) s') s)
    (n : Nat) (h : I n s) :
    codeAny (model prog w) A (.compLoop (.SetComp el [⟨t0, i0, cs0, 0⟩, ⟨t1, i1, cs1, 0⟩] sco ps) 0 itr0 ac en) R s := by
  refine codeAny_loop rfl I (fun n s hI => ?_) n h
  show wpAny _ A ((compTurn (.SetComp el [⟨t0, i0, cs0, 0⟩, ⟨t1, i1, cs1, 0⟩] sco ps) 0 itr0 ac en).onRaise (fun x => do noteFrame x en; theTreesLotGoes x)) _ _ s
  refine wpAny_noted ?_
  rw [scTurn_out]
  refine wpAny_bind (wpAny_standAt (wpAny_bind (wpAny_mono (tn_ n s hI) (fun r sa g₁ => ?_) fun _ _ hh => hh)))
  cases r with
  | none => exact wpAny_pure g₁
  | some v =>
    refine wpAny_bind (wpAny_mono g₁ (fun _ sb gb => ?_) fun _ _ hh => hh)
    refine wpAny_bind (wpAny_mono gb (fun _ sc g₂ => wpAny_bind (wpAny_mono g₂ (fun ok sd g₃ => ?_) fun _ _ hh => hh)) fun _ _ hh => hh)
    cases ok with
    | false => exact wpAny_pure ⟨rfl, g₃⟩
    | true =>
      refine wpAny_bind (wpAny_mono g₃ (fun x se g₄ => ?_) fun _ _ hh => hh)
      refine wpAny_bind (wpAny_standAt (wpAny_bind (wpAny_of_eq (hfs x) (wpAny_bind (wpAny_holding (wpAny_mono g₄ (fun itr1 sf g₅ => ?_) fun _ _ hh => hh))))))
      refine wpAny_bind (wpAny_runOwn ?_)
      rw [Around.mark_none]
      refine codeAny_mono g₅ fun r s' hres => ?_
      cases r with
      | ok f =>
        first
          | exact wpAny_pure ⟨rfl, hres⟩
          | exact wpAny_bind (wpAny_pure (wpAny_pure ⟨rfl, hres⟩))
      | error e => exact hres.elim
theorem scLoop_in (I : Nat → Shared → Prop)
    (tn_ : ∀ n s, I n s → wpAny (model prog w) A (pyNext itr0) (fun r sa => match r with
      | none => R (.ok .next) sa
      | some v => wpAny (model prog w) A (letOwnedTupleGo t1 itr0 v) (fun _ sb => wpAny (model prog w) A (assign t1 en v) (fun _ sc =>
          wpAny (model prog w) A (forIn cs1 true fun c r => if r = true then do let ok ← isTrue c en (eval c en); pure (ForInStep.yield ok) else pure (ForInStep.yield r)) (fun ok sd =>
            if ok = true then wpAny (model prog w) A (eval el en) (fun x se =>
              wpAny (model prog w) A (call (.builtin "set.add") [ac, x]) (fun _ sf => ∃ m, m < n ∧ I m sf) (notedBy (model prog w) A en fun e s' => R (.error e) s') se) (notedBy (model prog w) A en fun e s' => R (.error e) s') sd
            else ∃ m, m < n ∧ I m sd) (notedBy (model prog w) A en fun e s' => R (.error e) s') sc) (notedBy (model prog w) A en fun e s' => R (.error e) s') sb) (notedBy (model prog w) A en fun e s' => R (.error e) s') sa) (notedBy (model prog w) A en fun e s' => R (.error e) s') s)
    (n : Nat) (h : I n s) :
    codeAny (model prog w) A (.compLoop (.SetComp el [⟨t0, i0, cs0, 0⟩, ⟨t1, i1, cs1, 0⟩] sco ps) 1 itr0 ac en) R s := by
  refine codeAny_loop rfl I (fun n s hI => ?_) n h
  show wpAny _ A ((compTurn (.SetComp el [⟨t0, i0, cs0, 0⟩, ⟨t1, i1, cs1, 0⟩] sco ps) 1 itr0 ac en).onRaise (fun x => do noteFrame x en; theTreesLotGoes x)) _ _ s
  refine wpAny_noted ?_
  rw [scTurn_in]
  refine wpAny_bind (wpAny_standAt (wpAny_bind (wpAny_mono (tn_ n s hI) (fun r sa g₁ => ?_) fun _ _ hh => hh)))
  cases r with
  | none => exact wpAny_pure g₁
  | some v =>
    refine wpAny_bind (wpAny_mono g₁ (fun _ sb gb => ?_) fun _ _ hh => hh)
    refine wpAny_bind (wpAny_mono gb (fun _ sc g₂ => wpAny_bind (wpAny_mono g₂ (fun ok sd g₃ => ?_) fun _ _ hh => hh)) fun _ _ hh => hh)
    cases ok with
    | false => exact wpAny_pure ⟨rfl, g₃⟩
    | true =>
      exact wpAny_bind (wpAny_bind (wpAny_mono g₃ (fun x se g₄ => wpAny_bind (wpAny_standAt (wpAny_bind (wpAny_mono g₄ (fun _ sf g₅ => wpAny_pure (wpAny_pure ⟨rfl, g₅⟩)) fun _ _ hh => hh)))) fun _ _ hh => hh))
theorem scStart1 (h0 : codeAny (model prog w) A (.compLoop (.SetComp el [⟨t0, i0, cs0, 0⟩, ⟨t1, i1, cs1, 0⟩] sco ps) 1 itr0 ac en) R s)
    (h : wpAny (model prog w) A (pyIter itr0) (fun it' s' => codeAny (model prog w) A (.compLoop (.SetComp el [⟨t0, i0, cs0, 0⟩, ⟨t1, i1, cs1, 0⟩] sco ps) 1 it' ac en) R s')
      (notedBy (model prog w) A en fun x s' => R (.error x) s') s) :
    codeAny (model prog w) A (.compStart (.SetComp el [⟨t0, i0, cs0, 0⟩, ⟨t1, i1, cs1, 0⟩] sco ps) 1 itr0 ac en) R s := by
  refine codeAny_of_tree ?_
  show wpAny _ _ ((compStart (.SetComp el [⟨t0, i0, cs0, 0⟩, ⟨t1, i1, cs1, 0⟩] sco ps) 1 itr0 ac en).onRaise (fun x => do noteFrame x en; standAt theWindowsPlace)) _ _ s
  refine wpAny_notedAt ?_
  unfold compStart
  show wpAny _ _ (ask >>= _) _ _ s
  refine wpAny_bind (wpAny_askSetting (wpAny_ite ?_))
  split
  · first
      | exact wpAny_bind (wpAny_pure (wpAny_pure (And.intro rfl h0)))
      | exact wpAny_pure (And.intro rfl h0)
  · first
      | exact wpAny_bind (wpAny_rule (wpAny_bind (wpAny_standAt (wpAny_bind (wpAny_mono h (fun it' s' hh => wpAny_pure (And.intro rfl hh)) fun _ _ x => x)))))
      | (refine wpAny_bind (wpAny_rule ?_); show wpAny _ _ (standAt i1.pos >>= _) _ _ s; exact wpAny_bind (wpAny_standAt (wpAny_bind (wpAny_mono h (fun it' s' hh => wpAny_pure (And.intro rfl hh)) fun _ _ x => x))))
end

section
variable {X : Cx}
def tSc2 (X : Cx) (wi : TI) (g : TG) (tt : TT) (wi1 : TI) (g1 : TG) (tt1 : TT) (te : TE) (vs vs1 : List Nat) : TE := fun σ H Q => wi σ H fun J G1 => ∀ D, G1 D = none → ∃ W : Nat → Nat → Hp → Prop, (∃ m, W 0 m (upd G1 D (SetHO X.prog X.w D []))) ∧ ∀ i m H, W i m H →
  (J.stop i H ∧ Q (.ref D) H) ∨ (J.go i H ∧ ∃ Nx : Hp → Prop, (∀ H', Nx H' → ∃ m2, m2 < m ∧ W (i + 1) m2 H') ∧ ∀ x H', J.yld i H x H' → g x (wipe σ vs) H' fun σ2 G2 => wipe σ2 vs = wipe σ vs ∧ tt σ2 G2 fun b G3 =>
    if b = true then wi1 σ2 G3 fun J1 G4 => ∃ W1 : Nat → Nat → Hp → Prop, (∃ m, W1 0 m G4) ∧ ∀ j k H, W1 j k H →
      (J1.stop j H ∧ Nx H) ∨ (J1.go j H ∧ ∃ Nx1 : Hp → Prop, (∀ H', Nx1 H' → ∃ k', k' < k ∧ W1 (j + 1) k' H') ∧ ∀ x H', J1.yld j H x H' → g1 x (wipe σ2 vs1) H' fun σ3 G5 => wipe σ3 vs1 = wipe σ2 vs1 ∧ tt1 σ3 G5 fun b G6 =>
        if b = true then te σ3 G6 fun y G7 => ∃ c l, y = .str c ∧ G7 D = some (SetHO X.prog X.w D l) ∧ l.length + 1 < scanBound ∧ Nx1 (upd G7 D (SetHO X.prog X.w D (putS l c))) else Nx1 G6)
    else Nx G3)
theorem sc2_run {pins : List (Addr × Obj)} {s : Shared} {σ : L2.St} {H : Hp} {Q : VK} {el tgt src tgt1 src1 : Expr} {cs_ cs1 : List Expr} {sco : Scope} {ow : List (Str × Nat)} {vs1 : List Nat} {ps ps' : Pos} {wi wi1 : TI} {g g1 : TG} {tt tt1 : TT} {te : TE} {use : Option (Value → Sem Unit)} {Qf : Value → Shared → Prop}
    (hc : X.calm = true) (hN : X.N.Nodup) (I : Inv X pins σ H s) (hii : PI X tgt src wi) (ok : BlkOk X.N X.env.scope sco ow) (hvs : ∀ i ∈ vs1, i ∈ ow.map (·.2))
    (hgg : ∀ (s : Shared) (H : Hp) (C : Addr) (cl : List (Str × Addr)) (ft : List Addr), PG (X.blk s H sco (compEnvC sco cl C X.env) ft) tgt g) (htt : ∀ (s : Shared) (H : Hp) (C : Addr) (cl : List (Str × Addr)) (ft : List Addr), PTs (X.blk s H sco (compEnvC sco cl C X.env) ft) cs_ tt)
    (hee : ∀ (s : Shared) (H : Hp) (C : Addr) (cl : List (Str × Addr)) (ft : List Addr), PE (X.blk s H sco (compEnvC sco cl C X.env) ft) el te) (hfs : ∀ x, foldedSetIterable src X.env x = pure x)
    (hii1 : ∀ (s : Shared) (H : Hp) (C : Addr) (cl : List (Str × Addr)) (ft : List Addr), PI (X.blk s H sco (compEnvC sco cl C X.env) ft) tgt1 src1 wi1)
    (hgg1 : ∀ (s : Shared) (H : Hp) (C : Addr) (cl : List (Str × Addr)) (ft : List Addr), PG (X.blk s H sco (compEnvC sco cl C X.env) ft) tgt1 g1)
    (htt1 : ∀ (s : Shared) (H : Hp) (C : Addr) (cl : List (Str × Addr)) (ft : List Addr), PTs (X.blk s H sco (compEnvC sco cl C X.env) ft) cs1 tt1)
    (hfs1 : ∀ en x, foldedSetIterable src1 en x = pure x)
    (h : tSc2 X wi g tt wi1 g1 tt1 te (ow.map (·.2)) vs1 σ H Q)
    (hEnd : ∀ D C s' m H', Inv X pins σ H' s' → Q (.ref D) H' → s'.heap.Ns C m → FpOk X pins H' C → compPost (model X.prog X.w) X.A X.xe use Qf (.ref D) C (.ok .next) s') :
    wpAny (model X.prog X.w) X.A (comprehension (.SetComp el [⟨tgt, src, cs_, 0⟩, ⟨tgt1, src1, cs1, 0⟩] sco ps) sco X.env ps' (newSet (.type "set")) false (eval src X.env) use) Qf X.xe s := by
  have hcell : ∀ y ∈ sco.names, y.2 = .free → ∃ c, X.env.cells.lookup y.1 = some c := fun y hy e => by
    rcases ok.free y hy e with k | k
    · exact I.ok.has _ (.inl k)
    · exact I.ok.has _ (.inr k)
  refine wpAny_comprehension_free (use := use) rfl hfs (closure_ok hcell) ok.kind (fun y hy e => by rw [ok.uniq y hy, e])
    (thn (hii.run pins s σ H _ I h) fun xval z1 hxv => thn hxv fun itr z2 h2 => ?_)
  obtain ⟨itr0, ft, tn0, J, G2, e, V2, T, b2, f2, q⟩ := h2
  subst e
  refine PpSet.newSet_ok (newEnv_comp ?_)
  generalize hDD : z2.heap.objs.size = D
  have hDD0 : G2 D = none := V2.hok.fresh (Nat.le_of_eq hDD)
  obtain ⟨W, ⟨m0, y0⟩, tn_⟩ := q D hDD0
  generalize hs3 : ({ z2 with heap := z2.heap.push { cls := .type "set", dict := none, data := .set #[] 0 (.fresh 0 0 (!X.w.params.followText "set-order")) } } : Shared) = z3
  have V3 : Inv X pins σ (upd G2 D (SetHO X.prog X.w D [])) z3 := by
    rw [← hs3]
    refine V2.laid (t' := z2.toks) (fun b o e => Heap.get?_push_of_some _ e) (Nat.le_of_eq hDD) ?_
    rw [← hDD]
    exact setTx_obj setTx_fresh
  have h3 : z3.heap = z2.heap.push { cls := .type "set", dict := none, data := .set #[] 0 (.fresh 0 0 (!X.w.params.followText "set-order")) } := by rw [← hs3]
  have hszz : ∀ b ∈ ft, b < z2.heap.objs.size := fun b hb => by
    obtain ⟨o, e, _⟩ := T.obj _ _ b2 b hb
    exact Heap.lt_size e
  have f3 : ∀ b ∈ ft, FpOk X pins (upd G2 D (SetHO X.prog X.w D [])) b ∧ b < z3.heap.objs.size := fun b hb => by
    have hless := hszz b hb
    refine ⟨⟨?_, (f2 b hb).2⟩, by rw [h3, Heap.size_push]; exact Nat.lt_succ_of_lt hless⟩
    rw [upd_ne (by rw [← hDD]; exact Nat.ne_of_lt hless)]
    exact (f2 b hb).1
  have b3 : tn0 0 z3.heap := T.keep _ _ _ b2 fun b _ o e => by rw [h3]; exact Heap.get?_push_of_some _ e
  have V4 := block_start V3 ok hN f3
  have rg := hgg z3 (upd G2 D (SetHO X.prog X.w D [])) z3.heap.objs.size (cellsFrom (z3.heap.objs.size + 1) sco.names (cloFrom X.env.cells sco.names [])) ft
  have rt_ := htt z3 (upd G2 D (SetHO X.prog X.w D [])) z3.heap.objs.size (cellsFrom (z3.heap.objs.size + 1) sco.names (cloFrom X.env.cells sco.names [])) ft
  have re_ := hee z3 (upd G2 D (SetHO X.prog X.w D [])) z3.heap.objs.size (cellsFrom (z3.heap.objs.size + 1) sco.names (cloFrom X.env.cells sco.names [])) ft
  have ri1 := hii1 z3 (upd G2 D (SetHO X.prog X.w D [])) z3.heap.objs.size (cellsFrom (z3.heap.objs.size + 1) sco.names (cloFrom X.env.cells sco.names [])) ft
  have rg1 := hgg1 z3 (upd G2 D (SetHO X.prog X.w D [])) z3.heap.objs.size (cellsFrom (z3.heap.objs.size + 1) sco.names (cloFrom X.env.cells sco.names [])) ft
  have rt1 := htt1 z3 (upd G2 D (SetHO X.prog X.w D [])) z3.heap.objs.size (cellsFrom (z3.heap.objs.size + 1) sco.names (cloFrom X.env.cells sco.names [])) ft
  show codeAny _ _ (.compStart (.SetComp el [⟨tgt, src, cs_, 0⟩, ⟨tgt1, src1, cs1, 0⟩] sco ps) 0 (.ref itr0) (.ref D) (compEnvC sco (cellsFrom (z3.heap.objs.size + 1) sco.names (cloFrom X.env.cells sco.names [])) z3.heap.objs.size X.env)) (compPost (model X.prog X.w) X.A X.xe use Qf (.ref D) z3.heap.objs.size) { z3 with heap := pushCells (z3.heap.push { cls := .type "dict", data := .dict #[] }) sco.names }
  have nft : ∀ b ∈ ft, (upd G2 D (SetHO X.prog X.w D [])) b = none := fun b hb => (f3 b hb).1.1
  generalize hcenv : compEnvC sco (cellsFrom (z3.heap.objs.size + 1) sco.names (cloFrom X.env.cells sco.names [])) z3.heap.objs.size X.env = cenv at V4 rg rt_ re_ ri1 rg1 rt1 ⊢
  have cL : cenv.locals = z3.heap.objs.size := by subst hcenv; rfl
  generalize hH3 : upd G2 D (SetHO X.prog X.w D []) = G3 at V3 V4 rg rt_ re_ ri1 rg1 rt1 y0 nft f3
  generalize hs4 : ({ z3 with heap := pushCells (z3.heap.push { cls := .type "dict", data := .dict #[] }) sco.names } : Shared) = z4 at V4 ⊢
  have b4 : tn0 0 z4.heap := T.keep _ _ _ b3 fun b _ o e => by rw [← hs4]; exact pushCells_keeps _ _ _ _ (Heap.get?_push_of_some _ e)
  have stt : ∀ {σ' : L2.St} {H' : Hp} {s' : Shared}, Inv (X.blk z3 G3 sco cenv ft) [] σ' H' s' → (∀ b ∈ ft, H' b = none) → ∀ b ∈ ft, FpOk (X.blk z3 G3 sco cenv ft) [] H' b := fun {σ' H' s'} I' hfr b hb =>
    ⟨hfr b hb, (I'.ok.exf b hb).1, I'.ok.exfs b hb, .inl hb, fun x c e => (I'.ok.exf b hb).2 x c e, fun p hp => absurd (show p ∈ ([] : List (Addr × Obj)) ++ [] from hp) (by simp)⟩
  have lp : codeAny (model X.prog X.w) X.A (.compLoop (.SetComp el [⟨tgt, src, cs_, 0⟩, ⟨tgt1, src1, cs1, 0⟩] sco ps) 0 (.ref itr0) (.ref D) cenv) (compPost (model X.prog X.w) X.A X.xe use Qf (.ref D) z3.heap.objs.size) z4 := by
    refine scLoop_out (hfs1 cenv) (fun n s' => ∃ i H', Inv (X.blk z3 G3 sco cenv ft) [] (wipe σ (ow.map (·.2))) H' s' ∧ tn0 i s'.heap ∧ (∀ b ∈ ft, H' b = none) ∧ W i n H') ?_ m0 ⟨0, G3, V4, b4, nft, y0⟩
    rintro n z5 ⟨i, G5, V5, b5, a5, y5⟩
    rcases tn_ i n G5 y5 with ⟨hstop, qend⟩ | ⟨hgo, Nx, hN2, stp⟩
    · have tdone := T.done (X.blk z3 G3 sco cenv ft) rfl rfl rfl hc i [] z5 _ G5 (fun _ _ => False) V5 (stt V5 a5) b5 hstop
      refine thnF tdone fun r z6 ⟨hres, V6⟩ => ?_
      subst hres
      have V7 : Inv X pins σ G5 z6 := V3.call' (ch := ft) V6.os V6.base V6.hok V6.bare fun b hb => ⟨(f3 b hb).1.2.2.2.1, (f3 b hb).1.2.1, (f3 b hb).1.2.2.2.2.1, (f3 b hb).1.2.2.2.2.2⟩
      have noneC : G5 z3.heap.objs.size = none := by
        have z : G5 cenv.locals = none := V6.free
        rw [cL] at z
        exact z
      obtain ⟨m, hfr, _⟩ := V6.loc
      have hfr : z6.heap.Ns cenv.locals m := hfr
      rw [cL] at hfr
      exact hEnd D z3.heap.objs.size z6 m G5 V7 qend hfr (V3.fpOk (Nat.le_refl _) noneC)
    · have titem := T.item (X.blk z3 G3 sco cenv ft) rfl rfl rfl hc i [] z5 _ G5 (fun _ _ => False) V5 (stt V5 a5) b5 hgo
      refine thnF titem fun r z6 ⟨u, hres, h6⟩ => ?_
      subst hres
      refine thnF h6 fun _ z7 ⟨x, G7, V7, r_7, c7, b7, a7⟩ => ?_
      have V7' := V7.pinned (stt V7 a7) (T.obj _ _ b7)
      refine thnF (rg.run _ z7 _ G7 x u _ V7' r_7 (stp x G7 c7)) fun _ z8 ⟨σ8, G8, V8, hw8, d8⟩ => ?_
      refine thnF (rt_.run _ z8 σ8 G8 _ V8 d8) fun b z9 ⟨G9, V9, d9⟩ => ?_
      have fin_ : ∀ {σ9 : L2.St} {s' : Shared} {H' : Hp}, Inv (X.blk z3 G3 sco cenv ft) ([] ++ pinsAt ft z7.heap) σ9 H' s' → (wipe σ (ow.map (·.2))).length = σ9.length → (∀ (j : Nat) v, (wipe σ (ow.map (·.2)))[j]? = some (some v) → σ9[j]? = some (some v)) → Nx H' →
          ∃ m, m < n ∧ ∃ i H', Inv (X.blk z3 G3 sco cenv ft) [] (wipe σ (ow.map (·.2))) H' s' ∧ tn0 i s'.heap ∧ (∀ b ∈ ft, H' b = none) ∧ W i m H' := fun {σ9 s' H'} I' hl hk nxt => by
        obtain ⟨m2, hless, w2⟩ := hN2 H' nxt
        have kept : ∀ b ∈ ft, ∀ o, z7.heap.get? b = some o → s'.heap.get? b = some o ∧ H' b = none := fun b hb o e =>
          let z := I'.pin (b, o) (List.mem_append_right _ (List.mem_append_right _ (mem_pinsAt hb e)))
          ⟨z.1, z.2.1⟩
        refine ⟨m2, hless, i + 1, H', (I'.unpinned (pins := [])).weak hl hk, T.keep _ _ _ b7 fun b hb o e => (kept b hb o e).1, fun b hb => ?_, w2⟩
        obtain ⟨o, e, _⟩ := T.obj _ _ b7 b hb
        exact (kept b hb o e).2
      have fhl8 : (wipe σ (ow.map (·.2))).length = σ8.length := by rw [← hw8, wipe_length]
      have fhk8 : ∀ (j : Nat) v, (wipe σ (ow.map (·.2)))[j]? = some (some v) → σ8[j]? = some (some v) := fun j v e => by
        rw [← hw8] at e
        exact (wipe_some e).1
      have fhk9 : ∀ (j : Nat) v, (wipe σ (ow.map (·.2)))[j]? = some (some v) → (wipe σ8 vs1)[j]? = some (some v) := fun j v e => by
        rw [← hw8] at e
        obtain ⟨e1, e2⟩ := wipe_some e
        rw [wipe_out fun z => e2 (hvs j z)]
        exact e1
      cases b with
      | false =>
        simp only [Bool.false_eq_true, if_false] at d9 ⊢
        exact fin_ V9 fhl8 fhk8 d9
      | true =>
        simp only [if_true] at d9 ⊢
        refine thnF (ri1.run _ z9 σ8 G9 _ V9 d9) fun xval z10 hxv => thnF hxv fun itr z11 h11 => ?_
        obtain ⟨itr1, fp1, tnn, J1, G11, e1, V11, T1, b11, f11, W1, ⟨m1, y1⟩, tn1_⟩ := h11
        subst e1
        have stt1 : ∀ {H' : Hp}, (∀ b ∈ fp1, H' b = none) → ∀ b ∈ fp1, FpOk (X.blk z3 G3 sco cenv ft) ([] ++ pinsAt ft z7.heap) H' b := fun hfr b hb => ⟨hfr b hb, (f11 b hb).2⟩
        have lp1 : codeAny (model X.prog X.w) X.A (.compLoop (.SetComp el [⟨tgt, src, cs_, 0⟩, ⟨tgt1, src1, cs1, 0⟩] sco ps) 1 (.ref itr1) (.ref D) cenv)
            (fun r s' => match r with
              | .ok _ => ∃ m, m < n ∧ ∃ i H', Inv (X.blk z3 G3 sco cenv ft) [] (wipe σ (ow.map (·.2))) H' s' ∧ tn0 i s'.heap ∧ (∀ b ∈ ft, H' b = none) ∧ W i m H'
              | .error _ => False) z11 := by
          refine scLoop_in (fun k s' => ∃ j H', Inv (X.blk z3 G3 sco cenv ft) ([] ++ pinsAt ft z7.heap) (wipe σ8 vs1) H' s' ∧ tnn j s'.heap ∧ (∀ b ∈ fp1, H' b = none) ∧ W1 j k H') ?_ m1 ⟨0, G11, V11.weak (wipe_length _ _) (fun j v e => (wipe_some e).1), b11, fun b hb => (f11 b hb).1, y1⟩
          rintro k z12 ⟨j, G12, V12, b12, a12, y12⟩
          rcases tn1_ j k G12 y12 with ⟨hstop1, nx1⟩ | ⟨hgo1, Nx1, hN3, stp1⟩
          · refine thnF (T1.done (X.blk z3 G3 sco cenv ft) rfl rfl rfl hc j _ z12 (wipe σ8 vs1) G12 (fun _ _ => False) V12 (stt1 a12) b12 hstop1) fun r z13 ⟨hres, V13⟩ => ?_
            subst hres
            exact fin_ V13 (fhl8.trans (wipe_length σ8 vs1).symm) fhk9 nx1
          · refine thnF (T1.item (X.blk z3 G3 sco cenv ft) rfl rfl rfl hc j _ z12 (wipe σ8 vs1) G12 (fun _ _ => False) V12 (stt1 a12) b12 hgo1) fun r z13 ⟨u1, hres, h13⟩ => ?_
            subst hres
            refine thnF h13 fun _ z14 ⟨x1, G14, V14, r_14, c14, b14, a14⟩ => ?_
            have V14' := V14.pinned (stt1 a14) (T1.obj _ _ b14)
            refine thnF (rg1.run _ z14 (wipe σ8 vs1) G14 x1 u1 _ V14' r_14 (stp1 x1 G14 c14)) fun _ z15 ⟨σ15, G15, V15, hw15, d15⟩ => ?_
            refine thnF (rt1.run _ z15 σ15 G15 _ V15 d15) fun b1 z16 ⟨G16, V16, d16⟩ => ?_
            have fin1_ : ∀ {s' : Shared} {H' : Hp}, Inv (X.blk z3 G3 sco cenv ft) (([] ++ pinsAt ft z7.heap) ++ pinsAt fp1 z14.heap) σ15 H' s' → Nx1 H' → ∃ m, m < k ∧ ∃ j H', Inv (X.blk z3 G3 sco cenv ft) ([] ++ pinsAt ft z7.heap) (wipe σ8 vs1) H' s' ∧ tnn j s'.heap ∧ (∀ b ∈ fp1, H' b = none) ∧ W1 j m H' := fun {s' H'} I' nxt => by
              obtain ⟨m2, hless, w2⟩ := hN3 H' nxt
              have kept : ∀ b ∈ fp1, ∀ o, z14.heap.get? b = some o → s'.heap.get? b = some o ∧ H' b = none := fun b hb o e =>
                let z := I'.pin (b, o) (List.mem_append_right _ (List.mem_append_right _ (mem_pinsAt hb e)))
                ⟨z.1, z.2.1⟩
              refine ⟨m2, hless, j + 1, H', I'.unpinned.weak (by rw [← hw15, wipe_length]) (fun j v e => by rw [← hw15] at e; exact (wipe_some e).1), T1.keep _ _ _ b14 fun b hb o e => (kept b hb o e).1, fun b hb => ?_, w2⟩
              obtain ⟨o, e, _⟩ := T1.obj _ _ b14 b hb
              exact (kept b hb o e).2
            cases b1 with
            | false =>
              simp only [Bool.false_eq_true, if_false] at d16 ⊢
              exact fin1_ V16 d16
            | true =>
              simp only [if_true] at d16 ⊢
              refine thnF (re_.run _ z16 σ15 G16 _ V16 d16) fun z z17 ⟨yv, G17, V17, r_17, cs, lst, ey, hD17, hz17, nxt⟩ => ?_
              subst ey
              obtain ⟨tk, rfl⟩ := (show ∃ tk, z = Value.str cs tk from r_17)
              exact setHO_add (X := X.blk z3 G3 sco cenv ft) V17 hD17 hz17 fun z18 V18 => fin1_ V18 nxt
        exact scStart1 lp1 (T1.self X.A 0 _ _ _ b11 lp1)
  exact PpSet.codeAny_compStart_set lp (T.self X.A 0 _ _ _ b4 lp)
theorem pe_sc2 {el tgt src tgt1 src1 : Expr} {cs_ cs1 : List Expr} {sco : Scope} {ow : List (Str × Nat)} {vs1 : List Nat} {ps : Pos} {wi wi1 : TI} {g g1 : TG} {tt tt1 : TT} {te : TE} (hc : X.calm = true) (hN : X.N.Nodup) (hii : PI X tgt src wi) (ok : BlkOk X.N X.env.scope sco ow) (hvs : ∀ i ∈ vs1, i ∈ ow.map (·.2))
    (hgg : ∀ (s : Shared) (H : Hp) (C : Addr) (cl : List (Str × Addr)) (ft : List Addr), PG (X.blk s H sco (compEnvC sco cl C X.env) ft) tgt g) (htt : ∀ (s : Shared) (H : Hp) (C : Addr) (cl : List (Str × Addr)) (ft : List Addr), PTs (X.blk s H sco (compEnvC sco cl C X.env) ft) cs_ tt)
    (hii1 : ∀ (s : Shared) (H : Hp) (C : Addr) (cl : List (Str × Addr)) (ft : List Addr), PI (X.blk s H sco (compEnvC sco cl C X.env) ft) tgt1 src1 wi1)
    (hgg1 : ∀ (s : Shared) (H : Hp) (C : Addr) (cl : List (Str × Addr)) (ft : List Addr), PG (X.blk s H sco (compEnvC sco cl C X.env) ft) tgt1 g1) (htt1 : ∀ (s : Shared) (H : Hp) (C : Addr) (cl : List (Str × Addr)) (ft : List Addr), PTs (X.blk s H sco (compEnvC sco cl C X.env) ft) cs1 tt1)
    (hee : ∀ (s : Shared) (H : Hp) (C : Addr) (cl : List (Str × Addr)) (ft : List Addr), PE (X.blk s H sco (compEnvC sco cl C X.env) ft) el te) (hfs : ∀ x, foldedSetIterable src X.env x = pure x := by intro _; rfl) (hfs1 : ∀ en x, foldedSetIterable src1 en x = pure x := by intro _ _; rfl) :
    PE X (.SetComp el [⟨tgt, src, cs_, 0⟩, ⟨tgt1, src1, cs1, 0⟩] sco ps) (tSc2 X wi g tt wi1 g1 tt1 te (ow.map (·.2)) vs1) := by
  refine ⟨fun pins s σ H Q I h => ?_⟩
  rw [PpSet.eval_SetComp]
  refine sc2_run hc hN I hii ok hvs hgg htt hee hfs hii1 hgg1 htt1 hfs1 h fun D C s' m H' I' q hfr f => ⟨m, hfr, fun h'' sb => ?_⟩
  obtain ⟨f0, f1, f2, f3, f4, f5⟩ := f
  exact ⟨.ref D, H', I'.turned (t' := s'.toks) (fun b o hb e => (sb.2 b hb).trans e) f0 f1 f3 f4 f5, rfl, q⟩end
end DL

/-! DL: comprehensions with two fors. -/
namespace DL
open PySem PySem.Spec PyProof.Rows L2 PySem.Froz
noncomputable def inC (it : Rho → Mo Src) (g : CT) (t : Rho → Mo Bool) (e : XE) (own : List Nat) : Rho → Mo (List D) := fun ρ => Mo.bnd (it ρ) fun s => Mo.bnd (chk s) fun _ => loopC g t e s (wipeR ρ own) s.xs
noncomputable def loopN (g : CT) (t : Rho → Mo Bool) (inner : Rho → Mo (List D)) (s : Src) (ρ0 : Rho) : List D → Mo (List D)
  | [] => Mo.ret []
  | x :: xs => Mo.bnd (g.put x ρ0) fun ρ1 => Mo.bnd (t ρ1) fun c => if c = true then Mo.bnd (inner ρ1) fun ys => Mo.bnd (chk s) fun _ => Mo.bnd (loopN g t inner s ρ0 xs) fun zs => Mo.ret (ys ++ zs) else Mo.bnd (chk s) fun _ => loopN g t inner s ρ0 xs
theorem wipe_idem : ∀ (us ws : List Nat) (σ : L2.St), (∀ u ∈ us, u ∈ ws) → wipe (wipe σ us) ws = wipe σ ws
  | [], _, _, _ => rfl
  | u :: us, ws, σ, h => by
    show wipe ((wipe σ us).set u none) ws = _
    rw [wipe_set (h u List.mem_cons_self)]
    exact wipe_idem us ws σ fun x hx => h x (List.mem_cons_of_mem _ hx)
section
variable {X : Cx} {cl : Cl} {E : XK}
theorem turns2 {J : It} {s : Src} {g g1 : CT} {t t1 : Rho → Mo Bool} {it1 : Rho → Mo Src} {e : XE} {own own1 : List Nat} {σ : L2.St} {ρ : Rho} {W1 : Wd} {M1 M3 : MS} {H1 : Hp} {Qd : Hp → Prop} {ys : List D} {Dd : Addr} {o0 : HO} {Acc : Wd → List D → HO → Prop} {PP : V → Hp → (Hp → Prop) → Prop}
    (hup : ∀ W W' as o, W.vle W' → Acc W as o → Acc W' as o) (hA0 : ∀ W, Acc W [] o0)
    (hstep : ∀ W as o y u H (Nx : Hp → Prop), Acc W as o → Rep X.K W y u → H Dd = some o → (∃ zs, as ++ y :: zs = ys) → (∀ o', Acc W (as ++ [y]) o' → Nx (upd H Dd o')) → PP u H Nx)
    (hown : ∀ i ∈ g.own, i ∈ own) (hown1 : ∀ i ∈ g1.own, i ∈ own1) (hρ : RhoR X.K W1 σ ρ) (so : SrcOk X cl s J W1) (hH1 : HRel X.K cl W1 M1 H1) (ok1 : s.ok M1) (hn : H1 Dd = none)
    (hr : loopN g t (inC it1 g1 t1 e own1) s (wipeR ρ own) s.xs M1 = some (.ok ys, M3)) (fin : ∀ W H o, W1.le W → W.F Dd = some o → Acc W ys o → HRel X.K cl W M3 H → Qd H) :
    ∃ W : Nat → Nat → Hp → Prop, (∃ m, W 0 m (upd H1 Dd o0)) ∧ ∀ i m H, W i m H → (J.stop i H ∧ Qd H) ∨ (J.go i H ∧ ∃ Nx : Hp → Prop, (∀ H', Nx H' → ∃ m', m' < m ∧ W (i + 1) m' H') ∧ ∀ x H', J.yld i H x H' → gCT X.K g x (wipe σ own) H' fun σ2 H2 => wipe σ2 own = wipe σ own ∧ tT X.K cl E0 t σ2 H2 fun b H3 =>
      if b = true then tI X cl E0 it1 σ2 H3 fun J1 H4 => ∃ W1 : Nat → Nat → Hp → Prop, (∃ m, W1 0 m H4) ∧ ∀ j k H, W1 j k H →
        (J1.stop j H ∧ Nx H) ∨ (J1.go j H ∧ ∃ Nx1 : Hp → Prop, (∀ H', Nx1 H' → ∃ k', k' < k ∧ W1 (j + 1) k' H') ∧ ∀ x H', J1.yld j H x H' → gCT X.K g1 x (wipe σ2 own1) H' fun σ3 H5 => wipe σ3 own1 = wipe σ2 own1 ∧ tT X.K cl E0 t1 σ3 H5 fun b H6 =>
          if b = true then tD X.K cl E0 e σ3 H6 fun y H7 => PP y H7 Nx1 else Nx1 H6)
      else Nx H3) := by
  refine ⟨fun i m H => m = s.xs.length - i ∧ i ≤ s.xs.length ∧ ∃ W M as o zs, W1.le W ∧ W.F Dd = some o ∧ Acc W as o ∧ HRel X.K cl W M H ∧ s.ok M ∧ loopN g t (inC it1 g1 t1 e own1) s (wipeR ρ own) (s.xs.drop i) M = some (.ok zs, M3) ∧ as ++ zs = ys, ⟨_, rfl, Nat.zero_le _, ?_⟩, ?_⟩
  · obtain ⟨l, h⟩ := hH1.hold (o := o0) hn
    exact ⟨_, M1, [], o0, ys, l, upd_same, hA0 _, h, ok1, by rw [List.drop_zero]; exact hr, rfl⟩
  · rintro i m H ⟨rfl, hi, W, M, as, o, zs, l, hF, hA, hH, ok, hr, hcat⟩
    by_cases hlt : i < s.xs.length
    · obtain ⟨go, yl⟩ := so.go i s.xs[i] W M H l.v hH ok (by simp [hlt])
      refine .inr ⟨go, fun H => ∃ W M as o zs, W1.le W ∧ W.F Dd = some o ∧ Acc W as o ∧ HRel X.K cl W M H ∧ s.ok M ∧ loopN g t (inC it1 g1 t1 e own1) s (wipeR ρ own) (s.xs.drop (i + 1)) M = some (.ok zs, M3) ∧ as ++ zs = ys, fun H' p => ⟨_, ?_, rfl, hlt, p⟩, fun v H' y => ?_⟩
      · omega
      obtain ⟨W', l', rx, hH'⟩ := yl v H' y
      rw [List.drop_eq_getElem_cons hlt] at hr
      obtain ⟨ρ1, Ma, hput, hr1⟩ := Mo.bnd_ok (show Mo.bnd (g.put s.xs[i] (wipeR ρ own)) _ M = _ from hr)
      have eM := put_same hput
      subst eM
      refine gCT_of hown rx (wipe_rho (hρ.up (l.trans l')) own) hH' hput fun σ1 hw h1 _ => ⟨by rw [hw]; exact wipe_idem own own σ fun _ h => h, ρ1, _, W', h1, hH', ?_⟩
      obtain ⟨c, Mb, ht, hr2⟩ := Mo.bnd_ok hr1
      refine Post.sure ht fun W2 H2 c' l2 ec hH2 => ?_
      subst ec
      cases c with
      | false =>
        refine iteF ?_
        simp only [Bool.false_eq_true, if_false] at hr2
        obtain ⟨ok2, hr3⟩ := chk_eq hr2
        exact ⟨W2, Mb, as, o, zs, l.trans (l'.trans l2), l2.f _ _ (l'.f _ _ hF), hup _ _ _ _ (l'.trans l2).v hA, hH2, ok2, hr3, hcat⟩
      | true =>
        refine iteT ?_
        simp only [if_true] at hr2
        obtain ⟨yi, Mi, hin, hr3⟩ := Mo.bnd_ok hr2
        obtain ⟨okI, hr4⟩ := chk_eq hr3
        obtain ⟨zs2, Mz, hr5, hr6⟩ := Mo.bnd_ok hr4
        cases hr6
        obtain ⟨s1, Mc, hit, hin1⟩ := Mo.bnd_ok (show Mo.bnd (it1 ρ1) _ Mb = _ from hin)
        obtain ⟨okS, hin2⟩ := chk_eq hin1
        refine ⟨ρ1, Mb, W2, h1.up l2, hH2, Post.sure hit fun W4 H4 J1 l4 so1 hH4 => ?_⟩
        refine ⟨fun j k H => k = s1.xs.length - j ∧ j ≤ s1.xs.length ∧ ∃ W M bs o zs1, W1.le W ∧ W4.vle W ∧ W.F Dd = some o ∧ Acc W (as ++ bs) o ∧ HRel X.K cl W M H ∧ s1.ok M ∧ loopC g1 t1 e s1 (wipeR ρ1 own1) (s1.xs.drop j) M = some (.ok zs1, Mi) ∧ bs ++ zs1 = yi, ⟨_, rfl, Nat.zero_le _, W4, Mc, [], o, yi, l.trans (l'.trans (l2.trans l4)), (Wd.le.refl W4).v, l4.f _ _ (l2.f _ _ (l'.f _ _ hF)), by rw [List.append_nil]; exact hup _ _ _ _ (l'.trans (l2.trans l4)).v hA, hH4, okS, by rw [List.drop_zero]; exact hin2, rfl⟩, ?_⟩
        rintro j k H ⟨rfl, hj, W5, M5, bs, o5, zs1, l5, l5v, hF5, hA5, hH5, ok5, hr7, hcat5⟩
        by_cases hlt1 : j < s1.xs.length
        · obtain ⟨go1, yl1⟩ := so1.go j s1.xs[j] W5 M5 H l5v hH5 ok5 (by simp [hlt1])
          refine .inr ⟨go1, fun H => ∃ W M bs o zs1, W1.le W ∧ W4.vle W ∧ W.F Dd = some o ∧ Acc W (as ++ bs) o ∧ HRel X.K cl W M H ∧ s1.ok M ∧ loopC g1 t1 e s1 (wipeR ρ1 own1) (s1.xs.drop (j + 1)) M = some (.ok zs1, Mi) ∧ bs ++ zs1 = yi, fun H' p => ⟨_, ?_, rfl, hlt1, p⟩, fun v1 H6 y1 => ?_⟩
          · omega
          obtain ⟨W6, l6, rx1, hH6⟩ := yl1 v1 H6 y1
          rw [List.drop_eq_getElem_cons hlt1] at hr7
          obtain ⟨ρ2, M6, hput1, hr8⟩ := Mo.bnd_ok (show Mo.bnd (g1.put s1.xs[j] (wipeR ρ1 own1)) _ M5 = _ from hr7)
          have eM6 := put_same hput1
          subst eM6
          have h1' : RhoR X.K W6 σ1 ρ1 := (h1.up (l2.trans l4)).upv ⟨fun n a z => l6.i n a (l5v.i n a z), fun a o z => l6.g a o (l5v.g a o z)⟩
          refine gCT_of hown1 rx1 (wipe_rho h1' own1) hH6 hput1 fun σ3 hw3 h3 _ => ⟨by rw [hw3]; exact wipe_idem own1 own1 σ1 fun _ h => h, ρ2, _, W6, h3, hH6, ?_⟩
          obtain ⟨c1, M7, ht1, hr9⟩ := Mo.bnd_ok hr8
          refine Post.sure ht1 fun W7 H7 c7 l7 ec7 hH7 => ?_
          subst ec7
          cases c1 with
          | false =>
            refine iteF ?_
            simp only [Bool.false_eq_true, if_false] at hr9
            obtain ⟨ok7, hr10⟩ := chk_eq hr9
            exact ⟨W7, M7, bs, o5, zs1, l5.trans (l6.trans l7), ⟨fun n a z => l7.i n a (l6.i n a (l5v.i n a z)), fun a o z => l7.g a o (l6.g a o (l5v.g a o z))⟩, l7.f _ _ (l6.f _ _ hF5), hup _ _ _ _ (l6.trans l7).v hA5, hH7, ok7, hr10, hcat5⟩
          | true =>
            refine iteT ?_
            simp only [if_true] at hr9
            obtain ⟨y, M8, he, hr10⟩ := Mo.bnd_ok hr9
            refine ⟨ρ2, M7, W7, h3.up l7, hH7, Post.sure he fun W8 H8 u l8 ru hH8 => ?_⟩
            obtain ⟨ok8, hr11⟩ := chk_eq hr10
            obtain ⟨zs3, M9, hr12, hr13⟩ := Mo.bnd_ok hr11
            cases hr13
            have hF8 := l8.f _ _ (l7.f _ _ (l6.f _ _ hF5))
            refine hstep W8 (as ++ bs) o5 y u H8 _ (hup _ _ _ _ (l6.trans (l7.trans l8)).v hA5) ru (hH8.fle _ _ hF8).1 ⟨zs3 ++ zs2, ?_⟩ fun o' hA8 => ?_
            · rw [← hcat, ← hcat5]; simp
            · have hh := hH8.held (o := o') hF8
              have hnD : W1.F Dd = none := hH1.fnone hn
              have lt := l5.trans (l6.trans (l7.trans l8))
              refine ⟨⟨W8.ι, W8.G, upd W8.F Dd o'⟩, M8, bs ++ [y], o', zs3, ⟨lt.i, lt.g, fun b o eb => ?_⟩, ⟨fun n a z => l8.i n a (l7.i n a (l6.i n a (l5v.i n a z))), fun a o z => l8.g a o (l7.g a o (l6.g a o (l5v.g a o z)))⟩, upd_same, ?_, hh, ok8, hr12, by rw [List.append_assoc]; exact hcat5⟩
              · show upd W8.F Dd _ b = some o
                rw [upd_ne (ne_of_none eb hnD)]
                exact lt.f _ _ eb
              · rw [← List.append_assoc]
                exact hup W8 _ _ _ ⟨fun _ _ z => z, fun _ _ z => z⟩ hA8
        · have ej : j = s1.xs.length := by omega
          subst ej
          rw [List.drop_length] at hr7
          cases hr7
          rw [List.append_nil] at hcat5
          subst hcat5
          exact .inl ⟨so1.stop W5 _ H l5v hH5 ok5, W5, _, as ++ bs, o5, zs2, l5, hF5, hA5, hH5, okI, hr5, by rw [List.append_assoc]; exact hcat⟩
    · have ei : i = s.xs.length := by omega
      subst ei
      rw [List.drop_length] at hr
      cases hr
      rw [List.append_nil] at hcat
      subst hcat
      exact .inl ⟨so.stop W _ H l.v hH ok, fin W H o l hF hA hH⟩
end
/-! ### sorted({e for x in a if .. for y in b if ..}) -/
def strsOf : List D → Option (List Str)
  | [] => some []
  | .str s :: r => (strsOf r).map (s :: ·)
  | _ :: _ => none
theorem strsOf_app : ∀ {as bs : List D} {ss : List Str}, strsOf (as ++ bs) = some ss → ∃ s1 s2, strsOf as = some s1 ∧ strsOf bs = some s2 ∧ ss = s1 ++ s2
  | [], bs, ss, h => ⟨[], ss, rfl, h, rfl⟩
  | d :: as, bs, ss, h => by
    cases d with
    | str s =>
      obtain ⟨r, e, rfl⟩ := Option.map_eq_some_iff.mp (show (strsOf (as ++ bs)).map (s :: ·) = some ss from h)
      obtain ⟨s1, s2, e1, e2, rfl⟩ := strsOf_app e
      exact ⟨s :: s1, s2, by show (strsOf as).map (s :: ·) = _; rw [e1]; rfl, e2, rfl⟩
    | _ => cases h
theorem strsOf_map : ∀ ss : List Str, strsOf (ss.map D.str) = some ss
  | [] => rfl
  | s :: r => by show (strsOf (r.map D.str)).map (s :: ·) = _; rw [strsOf_map r]; rfl
theorem setS_len (ss : List Str) : (setS ss).length ≤ ss.length := by
  unfold setS
  have : ∀ (ss l : List Str), (ss.foldl putS l).length ≤ l.length + ss.length := by
    intro ss
    induction ss with
    | nil => intro l; simp
    | cons s r ih =>
      intro l
      have h := ih (putS l s)
      have : (putS l s).length ≤ l.length + 1 := by unfold putS; split <;> simp
      simp only [List.foldl_cons, List.length_cons]
      omega
  have := this ss []
  simpa using this
theorem setS_snoc (ss : List Str) (c : Str) : setS (ss ++ [c]) = putS (setS ss) c := by unfold setS; rw [List.foldl_append]; rfl
noncomputable def eSrt2 (it : Rho → Mo Src) (g : CT) (t : Rho → Mo Bool) (it1 : Rho → Mo Src) (g1 : CT) (t1 : Rho → Mo Bool) (e : XE) (own own1 : List Nat) : XE := fun ρ => Mo.bnd (it ρ) fun s => Mo.bnd (chk s) fun _ => Mo.bnd (noex (loopN g t (inC it1 g1 t1 e own1) s (wipeR ρ own) s.xs)) fun ys => match strsOf ys with
  | some ss => if (setS ss).length < 64 ∧ ss.length < scanBound then Mo.ret (.lst ((srtS (setS ss)).map D.str)) else Mo.stop
  | none => Mo.stop
section
variable {X : Cx} {cl : Cl} {E : XK}
theorem tI_blk {s0 : Shared} {H0 : Hp} {scope : Scope} {env : Env} {fp : List Addr} {m : Rho → Mo Src} : ∀ σ H R, tI X cl E m σ H R → tI (X.blk s0 H0 scope env fp) cl E m σ H R := fun σ H R ⟨ρ, M, W, a, b, hp⟩ => ⟨ρ, M, W, a, b, by
  have hp : Post X.K cl E (fun W s J => SrcOk X cl s J W) W (m ρ M) R := hp
  show Post X.K cl E (fun W s J => SrcOk (X.blk s0 H0 scope env fp) cl s J W) W (m ρ M) R
  cases e : m ρ M with
  | none => rw [e] at hp; exact hp
  | some q =>
    rw [e] at hp
    obtain ⟨q, M1⟩ := q
    cases q with
    | error x => exact hp
    | ok z => exact fun W' H' v l so h => hp W' H' v l ⟨so.stop, so.go⟩ h⟩
theorem pd_sortSc2 {el tgt src tgt1 src1 : Expr} {ifs ifs1 : List Expr} {scope : Scope} {own : List (Str × Nat)} {own1 : List Nat} {pos p ps : Pos} {mi mi1 : Rho → Mo Src} {g g1 : CT} {t t1 : Rho → Mo Bool} {m : XE} (hc : X.calm = true) (hN : X.N.Nodup) (hgl : Gl X "sorted") (hm : X.mg "sorted" = none)
    (hi : PDI X cl E tgt src mi) (ok : blkC X.N X.env.scope scope own = true)
    (hg : ∀ (s : Shared) (H : Hp) (C : Addr) (cc : List (Str × Addr)) (fp : List Addr), PG (X.blk s H scope (compEnvC scope cc C X.env) fp) tgt (gCT X.K g)) (ht : ∀ (s : Shared) (H : Hp) (C : Addr) (cc : List (Str × Addr)) (fp : List Addr), PTs (X.blk s H scope (compEnvC scope cc C X.env) fp) ifs (tT X.K cl E0 t))
    (hi1 : ∀ (s : Shared) (H : Hp) (C : Addr) (cc : List (Str × Addr)) (fp : List Addr), PDI (X.blk s H scope (compEnvC scope cc C X.env) fp) cl E0 tgt1 src1 mi1)
    (hg1 : ∀ (s : Shared) (H : Hp) (C : Addr) (cc : List (Str × Addr)) (fp : List Addr), PG (X.blk s H scope (compEnvC scope cc C X.env) fp) tgt1 (gCT X.K g1)) (ht1 : ∀ (s : Shared) (H : Hp) (C : Addr) (cc : List (Str × Addr)) (fp : List Addr), PTs (X.blk s H scope (compEnvC scope cc C X.env) fp) ifs1 (tT X.K cl E0 t1))
    (he : ∀ (s : Shared) (H : Hp) (C : Addr) (cc : List (Str × Addr)) (fp : List Addr), PD (X.blk s H scope (compEnvC scope cc C X.env) fp) cl E0 el m) (hown : ∀ i ∈ g.own, i ∈ own.map (·.2) := by decide) (hown1 : ∀ i ∈ g1.own, i ∈ own1 := by decide) (hown2 : ∀ i ∈ own1, i ∈ own.map (·.2) := by decide)
    (hs : ∀ x, foldedSetIterable src X.env x = pure x := by intro _; rfl) (hs1 : ∀ en x, foldedSetIterable src1 en x = pure x := by intro _ _; rfl) (hst : starEach [.SetComp el [⟨tgt, src, ifs, 0⟩, ⟨tgt1, src1, ifs1, 0⟩] scope ps] X.env = [(false, eval (.SetComp el [⟨tgt, src, ifs, 0⟩, ⟨tgt1, src1, ifs1, 0⟩] scope ps) X.env)] := by rfl) :
    PD X cl E (.Call (.Name "sorted" p) [.SetComp el [⟨tgt, src, ifs, 0⟩, ⟨tgt1, src1, ifs1, 0⟩] scope ps] [] pos) (eSrt2 mi g t mi1 g1 t1 m (own.map (·.2)) own1) :=
  PE.imp (pe_callB (cr_sortedTx hc) hgl hm (by decide +kernel) (pa_cons (pe_sc2 hc hN hi (blkOk_by ok) hown2 hg ht (fun s H C cc fp => PI.imp (hi1 s H C cc fp) tI_blk) hg1 ht1 he hs hs1) pa_nil hst) (by decide) (by decide) hst (by rfl)) fun σ H Q ⟨ρ, M, W, hρ, hH, hp⟩ => ⟨ρ, M, W, hρ, hH, hp.seq fun s M1 W1 H1 J l1 so hH1 hp1 => by
    obtain ⟨ok1, hp2⟩ := chk_ok2 hp1
    obtain ⟨ys, M3, e3, hp3⟩ := noex_post (X := X) (cl := cl) (E := E) hp2
    cases es : strsOf ys with
    | none => rw [es] at hp3; exact hp3.elim
    | some ss =>
      simp only [es] at hp3
      by_cases c : (setS ss).length < 64 ∧ ss.length < scanBound
      · rw [if_pos c] at hp3
        intro Dd hn
        refine turns2 (Acc := fun _ as o => ∃ sa, strsOf as = some sa ∧ o = SetHO X.prog X.w Dd (setS sa)) (fun _ _ _ _ _ h => h) (fun _ => ⟨[], rfl, rfl⟩) ?_ hown hown1 (hρ.up l1) so hH1 ok1 hn e3 fun W2 H2 o l2 hF hA hH2 => ?_
        · rintro W2 as o y u H2 Nx ⟨sa, ea, rfl⟩ ru ho ⟨zs, ez⟩ k
          rw [← ez] at es
          obtain ⟨s1, s2, x1, x2, x3⟩ := strsOf_app es
          rw [ea] at x1
          cases x1
          cases y with
          | str cc =>
            obtain ⟨r, x4, rfl⟩ := Option.map_eq_some_iff.mp (show (strsOf zs).map (cc :: ·) = some s2 from x2)
            refine ⟨cc, setS sa, ru, ho, ?_, k _ ⟨sa ++ [cc], ?_, by rw [setS_snoc]⟩⟩
            · have := setS_len sa
              have h2 := c.2
              rw [x3] at h2
              simp only [List.length_append, List.length_cons] at h2
              omega
            · have : ∀ (as : List D) (sa : List Str), strsOf as = some sa → strsOf (as ++ [.str cc]) = some (sa ++ [cc]) := by
                intro as
                induction as with
                | nil => intro sa h; cases h; rfl
                | cons d as ih =>
                  intro sa h
                  cases d with
                  | str s =>
                    obtain ⟨r, e, rfl⟩ := Option.map_eq_some_iff.mp (show (strsOf as).map (s :: ·) = some sa from h)
                    show (strsOf (as ++ [.str cc])).map (s :: ·) = _
                    rw [ih r e]; rfl
                  | _ => cases h
              exact this as sa ea
          | _ => cases x2
        · obtain ⟨sa, ea, rfl⟩ := hA
          rw [es] at ea
          cases ea
          refine ⟨Dd, setS ss, rfl, (hH2.fle _ _ hF).1, c.1, fun p hp => ?_⟩
          obtain ⟨W4, l4, h4, r4⟩ := hH2.mkLst (ds := (srtS (setS ss)).map D.str) (Reps.map fun _ _ => rfl) hp
          exact hp3 W4 _ _ (l2.trans l4) r4 h4
      · rw [if_neg c] at hp3; exact hp3.elim⟩
/-! ### sorted(xs), texts -/
def sortedD : List D → Mo D
  | [d] => fun M => match (lstOf M d).bind strsOf with
    | some ss => if ss.length < 64 then some (.ok (.lst ((srtS ss).map D.str)), M) else none
    | none => none
  | _ => Mo.stop
theorem strsOf_rep {K : PySem.W.Frag} {W : Wd} : ∀ {ds : List D} {vs : List V} {ss : List Str}, Reps K W ds vs → strsOf ds = some ss → vs = ss.map V.str
  | [], _, _, r, h => by cases h; exact r
  | d :: ds, _, ss, ⟨v, us, e, r, q⟩, h => by
    cases d with
    | str b =>
      obtain ⟨cs, e2, rfl⟩ := Option.map_eq_some_iff.mp (show (strsOf ds).map (b :: ·) = some ss from h)
      rw [e, show v = _ from r, strsOf_rep q e2]; rfl
    | _ => cases h
theorem cd_sorted : CallD X cl E (.builtin "sorted") sortedD := CallR.imp cr_sortedS fun vs H Q ⟨ds, M, W, r, hH, hp⟩ => by
  match ds, r, hp with
  | [d], r, hp =>
    obtain ⟨v, rfl, r1⟩ := r.one_of
    have hp : Post X.K cl E (Rep X.K) W (match (lstOf M d).bind strsOf with | some ss => if ss.length < 64 then some (.ok (.lst ((srtS ss).map D.str)), M) else none | none => none) Q := hp
    cases e : (lstOf M d).bind strsOf with
    | none => rw [e] at hp; exact hp.elim
    | some ss =>
      simp only [e] at hp
      by_cases c : ss.length < 64
      · rw [if_pos c] at hp
        obtain ⟨xs, e1, e2⟩ := Option.bind_eq_some_iff.mp e
        obtain ⟨a, us, z1, s1, q1⟩ := lst_of hH r1 e1
        refine ⟨a, ss, by rw [z1], by rw [← strsOf_rep q1 e2]; exact .inl s1, c, fun ys p pm so hn => ?_⟩
        rw [sorted_is pm so]
        obtain ⟨W4, l4, h4, r4⟩ := hH.mkLst (ds := (srtS ss).map D.str) (vs := (srtS ss).map V.str) (Reps.map fun _ _ => rfl) hn
        exact hp W4 _ _ l4 r4 h4
      · rw [if_neg c] at hp; exact hp.elim
  | [], _, hp => exact hp.elim
  | d :: _ :: _, _, hp => exact hp.elim
end
end DL

/-! DL: tuple * k for any k from 0. -/
namespace DL
open PySem PySem.Spec PyProof.Rows L2
theorem tmul_same (l : Addr) (items : Array Value) (n : Nat) (dd : Option Addr) (sl : Array (Option Value)) (x : Int) (u : Tok) (c0 : (decide (x < -(2 ^ 63)) || decide (x ≥ 2 ^ 63)) = false) (c1 : (items.isEmpty || x == 1) = true) :
    Meets (Builtin.«tuple.__mul__» ⟨[.ref l, .int x u], []⟩) (fun _ R s => s.heap.get? l = some { cls := .type "tuple", dict := dd, data := .seq items n, slots := sl } ∧ R (.ok (.ret (Value.ref l))) s) :=
  .of_wp fun prog w A R s h => by
    obtain ⟨hp, g, d, tk, os⟩ := s
    obtain ⟨hl, h⟩ := h
    have f1 := AutoSeq1.idx_int
    wp_walk using wpAny_loadPart' hl
    repeat (first
      | (refine wpAny_ite_false (decide_eq_false (by rw [c0]; exact Bool.false_ne_true)) ?_; wp_walk using wpAny_loadPart' hl)
      | (refine wpAny_ite_true (decide_eq_true (by rw [c1])) ?_; wp_walk using wpAny_loadPart' hl)
      | (refine wpAny_ite_true (decide_eq_true (by rfl)) ?_; wp_walk using wpAny_loadPart' hl))
    exact ⟨_, rfl, h⟩
theorem tmul_none (l : Addr) (items : Array Value) (n : Nat) (dd : Option Addr) (sl : Array (Option Value)) (x : Int) (u : Tok) (c0 : (decide (x < -(2 ^ 63)) || decide (x ≥ 2 ^ 63)) = false) (c1 : (items.isEmpty || x == 1) = false) (c2 : (decide (x ≤ 0) || items.isEmpty) = true) :
    Meets (Builtin.«tuple.__mul__» ⟨[.ref l, .int x u], []⟩) (fun _ R s => s.heap.get? l = some { cls := .type "tuple", dict := dd, data := .seq items n, slots := sl } ∧
      R (.ok (.ret (Value.ref s.heap.objs.size))) { s with heap := s.heap.push { cls := Value.type "tuple", data := Data.seq #[] }, toks := s.toks }) :=
  .of_wp fun prog w A R s h => by
    obtain ⟨hp, g, d, tk, os⟩ := s
    obtain ⟨hl, h⟩ := h
    have f1 := AutoSeq1.idx_int
    wp_walk using wpAny_loadPart' hl
    repeat (first
      | (refine wpAny_ite_false (decide_eq_false (by rw [c0]; exact Bool.false_ne_true)) ?_; wp_walk using wpAny_loadPart' hl)
      | (refine wpAny_ite_false (decide_eq_false (by rw [c1]; exact Bool.false_ne_true)) ?_; wp_walk using wpAny_loadPart' hl)
      | (refine wpAny_ite_true (decide_eq_true (by rw [c2])) ?_; wp_walk using wpAny_loadPart' hl))
    exact ⟨_, rfl, h⟩
section
variable {X : Cx}
theorem op_repT1 : OpR X (binaryOp .Mult) (fun x y H Q => ∃ l k xs, x = .ref l ∧ y = .int k ∧ SqT X.K H l xs ∧ (xs = [] ∨ k = 1) ∧ -1000 ≤ k ∧ k ≤ 1000 ∧ Q (.ref l) H) := by
  intro pins s σ H x y v u Q I rx ry ⟨l, k, xs, ex, ey, hT, hne, h1, h2, q⟩
  subst ex
  subst ey
  cases rx
  obtain ⟨t, rfl⟩ := ry
  obtain ⟨its, r, ⟨⟨cls, dd, data, sl⟩, ho, hc, n, hd⟩, hs⟩ := I.tuple hT
  simp only at hc hd
  subst hc hd
  have c1 : (its.toArray.isEmpty || k == 1) = true := by
    rcases hne with e | e
    · subst e
      cases r
      rfl
    · rw [e]; simp
  have c0 : (decide (k < -(2 ^ 63)) || decide (k ≥ 2 ^ 63)) = false := by rw [decide_eq_false (by omega), decide_eq_false (by omega)]; rfl
  exact wpAny_binaryOp_repeat_ref (T := "tuple") (U := "int") (by decide) ⟨_, ho, rfl⟩ (fun s' => typeIs_int s' k t) noFill_tuple_mul F.fills_int_mul F.slot_int_rmul repeat_tuple F.slot_int_index.lookup
    (call_meets F.slot_int_rmul (typeIs_int s k t) F.entry_int_rmul (F.args_int_rmul_2 _ _) (int_rmul_tuple k t l its.toArray n dd sl)
      ⟨ho, rfl, ⟨_, ho, rfl⟩, call_meets F.slot_tuple_mul ⟨_, ho, rfl⟩ F.entry_tuple_mul (F.args_tuple_mul_2 _ _) (tmul_same l its.toArray n dd sl k t c0 c1) ⟨ho, ⟨.ref l, H, I, rfl, q⟩⟩⟩)
theorem op_repT0 : OpR X (binaryOp .Mult) (fun x y H Q => ∃ l k xs, x = .ref l ∧ y = .int k ∧ SqT X.K H l xs ∧ xs ≠ [] ∧ -1000 ≤ k ∧ k ≤ 0 ∧ NewT Q H []) := by
  intro pins s σ H x y v u Q I rx ry ⟨l, k, xs, ex, ey, hT, hne, h1, h2, q⟩
  subst ex
  subst ey
  cases rx
  obtain ⟨t, rfl⟩ := ry
  obtain ⟨its, r, ⟨⟨cls, dd, data, sl⟩, ho, hc, n, hd⟩, hs⟩ := I.tuple hT
  simp only at hc hd
  subst hc hd
  have hi : its.toArray.isEmpty = false := by
    cases its with
    | nil =>
      have := r.length
      exact absurd (List.length_eq_zero_iff.mp this) hne
    | cons a b => rfl
  have c0 : (decide (k < -(2 ^ 63)) || decide (k ≥ 2 ^ 63)) = false := by rw [decide_eq_false (by omega), decide_eq_false (by omega)]; rfl
  have c1 : (its.toArray.isEmpty || k == 1) = false := by rw [hi, Bool.false_or]; exact beq_eq_false_iff_ne.mpr (by omega)
  have c2 : (decide (k ≤ 0) || its.toArray.isEmpty) = true := by rw [decide_eq_true h2]; rfl
  refine wpAny_binaryOp_repeat_ref (T := "tuple") (U := "int") (by decide) ⟨_, ho, rfl⟩ (fun s' => typeIs_int s' k t) noFill_tuple_mul F.fills_int_mul F.slot_int_rmul repeat_tuple F.slot_int_index.lookup
    (call_meets F.slot_int_rmul (typeIs_int s k t) F.entry_int_rmul (F.args_int_rmul_2 _ _) (int_rmul_tuple k t l its.toArray n dd sl)
      ⟨ho, rfl, ⟨_, ho, rfl⟩, call_meets F.slot_tuple_mul ⟨_, ho, rfl⟩ F.entry_tuple_mul (F.args_tuple_mul_2 _ _) (tmul_none l its.toArray n dd sl k t c0 c1 c2) ⟨ho, ?_⟩⟩)
  obtain ⟨n1, J⟩ := Inv.tnew (its := []) (g' := s.heap) I .nil (Nat.zero_le _) (fun _ _ e => e) s.toks
  exact ⟨.ref _, _, J, rfl, q _ _ rfl n1⟩
theorem op_repN : OpR X (binaryOp .Mult) (fun x y H Q => ∃ l k xs, x = .ref l ∧ y = .int k ∧ SqT X.K H l xs ∧ xs ≠ [] ∧ 2 ≤ k ∧ k ≤ 1000 ∧ xs.length ≤ 1000 ∧ NewT Q H (List.replicate k.toNat xs).flatten) := by
  intro pins s σ H x y v u Q I rx ry ⟨l, k, xs, ex, ey, hT, hne, h1, h2, hz, q⟩
  subst ex
  subst ey
  cases rx
  obtain ⟨t, rfl⟩ := ry
  obtain ⟨its, r, ⟨⟨cls, dd, data, sl⟩, ho, hc, n, hd⟩, hs⟩ := I.tuple hT
  simp only at hc hd
  subst hc hd
  have hle : its.length = xs.length := r.length.symm
  have hi : its.toArray.isEmpty = false := by
    cases its with
    | nil => exact absurd (List.length_eq_zero_iff.mp hle.symm) hne
    | cons a b => rfl
  have pr : ((its.toArray.size : Nat) : Int) * k ≤ 1000000 := by
    have a1 : ((its.toArray.size : Nat) : Int) * k ≤ 1000 * k := Int.mul_le_mul_of_nonneg_right (by rw [List.size_toArray]; omega) (by omega)
    omega
  have fl : (List.replicate k.toNat its).flatten.length ≤ sizeLine := by
    rw [PyProof.Rows.lm_len_rep_flat, hle, sizeLine_eq]
    have a1 : k.toNat * xs.length ≤ 1000 * 1000 := Nat.mul_le_mul (by omega) hz
    omega
  refine wpAny_binaryOp_repeat_ref (T := "tuple") (U := "int") (by decide) ⟨_, ho, rfl⟩ (fun s' => typeIs_int s' k t) noFill_tuple_mul F.fills_int_mul F.slot_int_rmul repeat_tuple F.slot_int_index.lookup
    (call_meets F.slot_int_rmul (typeIs_int s k t) F.entry_int_rmul (F.args_int_rmul_2 _ _) (int_rmul_tuple k t l its.toArray n dd sl) ⟨ho, rfl, ⟨_, ho, rfl⟩, call_meets F.slot_tuple_mul ⟨_, ho, rfl⟩ F.entry_tuple_mul (F.args_tuple_mul_2 _ _)
      (tuple_mulW l its.toArray n dd sl k t (by rw [decide_eq_false (by omega), decide_eq_false (by omega)]; rfl) (by rw [hi, Bool.false_or]; exact beq_eq_false_iff_ne.mpr (by omega)) (by rw [hi, Bool.or_false]; exact decide_eq_false (by omega)) (by omega) (by unfold Builtin.Tuple.tupleTooMany; rw [sizeLine_eq]; exact decide_eq_false (by omega)) (by rw [size_rep, List.size_toArray]; exact fl)) ⟨ho, ?_⟩⟩)
  rw [size_rep]
  obtain ⟨n1, J⟩ := Inv.tnew (g' := s.heap) I (r.rep k.toNat) (by rw [PyProof.Rows.lm_len_rep_flat, ← hle]; rw [PyProof.Rows.lm_len_rep_flat] at fl; exact fl) (fun _ _ e => e) s.toks
  exact ⟨.ref _, _, J, rfl, q _ _ rfl n1⟩
end
def mulTD : D → D → Mo D
  | .tup xs, .int k => if (decide (0 ≤ k) && decide (k ≤ 1000) && decide (xs.length ≤ 1000)) = true then Mo.ret (.tup (List.replicate k.toNat xs).flatten) else Mo.stop
  | d, e => mulD d e
section
variable {X : Cx} {cl : Cl} {E : XK}
theorem od_mulT : OpD X cl E (binaryOp .Mult) mulTD := OpR.imp ((od_mul (X := X) (cl := cl) (E := E)).or (op_repN.or (op_repT1.or op_repT0))) fun x y H Q ⟨d, e, M, W, r1, r2, hH, hp⟩ => by
  by_cases cc : ∃ xs k, d = .tup xs ∧ e = .int k
  · obtain ⟨xs, k, rfl, rfl⟩ := cc
    have hp : Post X.K cl E (Rep X.K) W ((if (decide (0 ≤ k) && decide (k ≤ 1000) && decide (xs.length ≤ 1000)) = true then Mo.ret (.tup (List.replicate k.toNat xs).flatten) else Mo.stop : Mo D) M) Q := hp
    by_cases c : (decide (0 ≤ k) && decide (k ≤ 1000) && decide (xs.length ≤ 1000)) = true
    · rw [if_pos c] at hp
      have c1 := Bool.and_eq_true_iff.mp c
      have c2 := Bool.and_eq_true_iff.mp c1.1
      have k0 := of_decide_eq_true c2.1
      have k1 := of_decide_eq_true c2.2
      have k2 := of_decide_eq_true c1.2
      obtain ⟨a, us, z, s, q⟩ := sqT_of hH r1
      by_cases n0 : xs = []
      · subst n0
        have e0 : (List.replicate k.toNat ([] : List D)).flatten = [] := by simp
        rw [e0] at hp
        have : us = [] := q
        subst this
        exact .inr (.inr (.inl ⟨a, k, [], z, r2, s, .inl rfl, by omega, k1, z ▸ hp W H x (.refl W) r1 hH⟩))
      · have nu : us ≠ [] := fun e => n0 (q.nil_iff.mp e)
        by_cases k3 : k = 1
        · subst k3
          have e0 : (List.replicate (1 : Int).toNat xs).flatten = xs := by simp
          rw [e0] at hp
          exact .inr (.inr (.inl ⟨a, 1, us, z, r2, s, .inr rfl, by omega, by omega, z ▸ hp W H x (.refl W) r1 hH⟩))
        · by_cases k4 : k ≤ 0
          · have : k = 0 := by omega
            subst this
            refine .inr (.inr (.inr ⟨a, 0, us, z, r2, s, nu, by omega, by omega, fun p o ho hn => ?_⟩))
            obtain ⟨W4, l4, h4, r4⟩ := hH.mkTup (ds := []) (vs := []) rfl ho hn
            exact hp W4 _ _ l4 r4 h4
          · refine .inr (.inl ⟨a, k, us, z, r2, s, nu, by omega, k1, by rw [q.length]; exact k2, fun p o ho hn => ?_⟩)
            obtain ⟨W4, l4, h4, r4⟩ := hH.mkTup (q.rep_flat k.toNat) ho hn
            exact hp W4 _ _ l4 r4 h4
    · rw [if_neg c] at hp; exact hp.elim
  · have e0 : mulTD d e = mulD d e := by
      cases d with
      | tup xs => cases e <;> first | rfl | exact absurd ⟨_, _, rfl, rfl⟩ cc
      | _ => rfl
    rw [e0] at hp
    exact .inl ⟨d, e, M, W, r1, r2, hH, hp⟩
/-! ### min, max -/
def minD : List D → Mo D
  | [.int i, .int j] => Mo.ret (.int (if j < i then j else i))
  | _ => Mo.stop
def maxD : List D → Mo D
  | [.int i, .int j] => Mo.ret (.int (if j > i then j else i))
  | _ => Mo.stop
theorem cd_min (hc : X.calm = true) : CallD X cl E (.builtin "min") minD := CallR.imp (call_min2 hc) fun vs H Q ⟨ds, M, W, r, hH, hp⟩ => by
  match ds, r, hp with
  | [d, e], ⟨v, _, z, rv, u, _, z2, ru, z3⟩, hp =>
    cases d <;> first
      | exact hp.elim
      | (cases e <;> first
         | exact hp.elim
         | (rw [z, z2, show _ = [] from z3, show v = _ from rv, show u = _ from ru]; exact ⟨_, _, rfl, hp W H _ (.refl W) rfl hH⟩))
  | [], _, hp => exact hp.elim
  | [d], _, hp => cases d <;> exact hp.elim
  | d :: e :: _ :: _, _, hp => cases d <;> cases e <;> exact hp.elim
theorem cd_max (hc : X.calm = true) : CallD X cl E (.builtin "max") maxD := CallR.imp (call_max2 hc) fun vs H Q ⟨ds, M, W, r, hH, hp⟩ => by
  match ds, r, hp with
  | [d, e], ⟨v, _, z, rv, u, _, z2, ru, z3⟩, hp =>
    cases d <;> first
      | exact hp.elim
      | (cases e <;> first
         | exact hp.elim
         | (rw [z, z2, show _ = [] from z3, show v = _ from rv, show u = _ from ru]; exact ⟨_, _, rfl, hp W H _ (.refl W) rfl hH⟩))
  | [], _, hp => exact hp.elim
  | [d], _, hp => cases d <;> exact hp.elim
  | d :: e :: _ :: _, _, hp => cases d <;> cases e <;> exact hp.elim
end
end DL

/-! DL: dict(..) of pairs. -/
namespace DL
open PySem PySem.Spec PyProof.Rows L2
def pairOf : D → Option (Key × D)
  | .tup [k, v] => (keyK k).map fun k => (k, v)
  | _ => none
def pairsOfD : List D → Option (List (Key × D))
  | [] => some []
  | d :: ds => (pairOf d).bind fun p => (pairsOfD ds).map (p :: ·)
def mergeKD (acc : List (Key × D)) (ps : List (Key × D)) : List (Key × D) := ps.foldl (fun a p => putKD a p.1 p.2) acc
/-- dict(xs) -/
def dictD : List D → Mo D
  | [d] => fun M => match (seqOf M d).bind pairsOfD with
    | some ps => if ps.length ≤ sizeLine then newO (.dK (mergeKD [] ps)) M else none
    | none => none
  | _ => Mo.stop
section
variable {K : PySem.W.Frag} {W : Wd}
theorem merge_rel : ∀ {ps : List (Key × D)} {kvs : List (Key × V)} {acc : List (Key × D)} {vs : List (Key × V)}, RepK K W ps kvs → RepK K W acc vs → RepK K W (mergeKD acc ps) (mergeK vs kvs)
  | [], kvs, acc, vs, r, q => by
    cases r
    exact q
  | p :: ps, _, acc, vs, .cons (b := kv) h t, q => by
    show RepK K W (mergeKD (putKD acc p.1 p.2) ps) (mergeK (putK vs kv.1 kv.2) _)
    refine merge_rel t ?_
    rw [← h.1]
    exact putK_rel q h.2
end
section
variable {X : Cx} {pins : List (Addr × Obj)} {σ : L2.St} {H : Hp} {s : Shared} {W : Wd}
theorem pairOf_ok {d : D} {p : Key × D} (h : pairOf d = some p) : ∃ k x k', d = .tup [k, x] ∧ keyK k = some k' ∧ p = (k', x) := by
  unfold pairOf at h
  split at h
  · rename_i k x
    obtain ⟨k', hk, rfl⟩ := Option.map_eq_some_iff.mp h
    exact ⟨k, x, k', rfl, hk, rfl⟩
  · cases h
/-- the pairs, by where they stand -/
theorem pairs_at : ∀ {ds : List D} {vs : List V} {ps : List (Key × D)}, (∀ a o, W.G a = some o → H a = some o) → Reps X.K W ds vs → pairsOfD ds = some ps →
    ∃ (bs : List Addr) (kvs : List (Key × V)), vs = bs.map V.ref ∧ Paired (fun b kv => SqT X.K H b [kV kv.1, kv.2]) bs kvs ∧ RepK X.K W ps kvs
  | [], _, _, _, r, h => by
    cases h
    exact ⟨[], [], r, .nil, .nil⟩
  | d :: ds, _, _, hg, ⟨v, us, e, r1, r2⟩, h => by
    subst e
    obtain ⟨p, hp, h2⟩ := Option.bind_eq_some_iff.mp (show ((pairOf d).bind fun p => (pairsOfD ds).map (p :: ·)) = some _ from h)
    obtain ⟨ps, h3, rfl⟩ := Option.map_eq_some_iff.mp h2
    obtain ⟨bs, kvs, rfl, q1, q2⟩ := pairs_at hg r2 h3
    obtain ⟨k, x, k', rfl, hk, rfl⟩ := pairOf_ok hp
    obtain ⟨b, ws, rfl, st, vk, w1, e1, rk, vx, w2, e2, rx, e3⟩ := r1
    subst e1
    subst e2
    rw [show w2 = [] from e3, keyK_v rk hk] at st
    exact ⟨b :: bs, (k', vx) :: kvs, rfl, .cons (sqT_mono hg st.sq) q1, .cons ⟨rfl, rx⟩ q2⟩
theorem pairs_in (I : Inv X pins σ H s) : ∀ {bs : List Addr} {kvs : List (Key × V)}, Paired (fun b kv => SqT X.K H b [kV kv.1, kv.2]) bs kvs →
    ∃ (prs : List (Key × Value)) (pv : List (Value × Value)), KV kvs prs ∧ prs.length = bs.length ∧ pv.length = bs.length ∧ ∀ (j : Nat) (p : Value × Value), pv[j]? = some p → ∃ b q, bs[j]? = some b ∧ prs[j]? = some q ∧ IsTup s.heap b #[p.1, p.2] ∧ keyIs q.1 p.1 = true ∧ q.2 = p.2
  | _, _, .nil => ⟨[], [], .nil, rfl, rfl, fun j p e => by simp at e⟩
  | _, _, .cons (a := b) (b := kv) h t => by
    obtain ⟨prs, pv, r, hl, hl2, hp⟩ := pairs_in I t
    obtain ⟨its, rv, ht, _⟩ := I.tuple h
    obtain ⟨u, y, ei, ru, ry⟩ := vals2 rv
    subst ei
    refine ⟨(kv.1, y) :: prs, (u, y) :: pv, .cons ⟨rfl, ry⟩ r, by simp [hl], by simp [hl2], fun j p e => ?_⟩
    cases j with
    | zero =>
      have e' : (u, y) = p := Option.some.inj e
      subst e'
      exact ⟨b, (kv.1, y), rfl, rfl, ht, kV_is (P := X.prog) (w := X.w) ru, rfl⟩
    | succ j =>
      obtain ⟨b', q, e1, e2, e3⟩ := hp j p (by simpa using e)
      exact ⟨b', q, by simpa using e1, by simpa using e2, e3⟩
theorem call_dict_seq (hc : X.calm = true) : CallR X (.type "dict") (fun xs H Q => ∃ (a : Addr) (bs : List Addr) (kvs : List (Key × V)), xs = [.ref a] ∧ (Rd H a (.lst (bs.map V.ref)) ∨ TupN X.K H a (bs.map V.ref)) ∧ Paired (fun b kv => SqT X.K H b [kV kv.1, kv.2]) bs kvs ∧
    ∀ p, H p = none → Q (.ref p) (upd H p (.dK (mergeK [] kvs)))) := by
  intro pins s σ H xs us Q I r ⟨a, bs, kvs, ex, hq, hp, q⟩
  subst ex
  obtain ⟨u, eu, rx⟩ := vals1 r
  subst eu
  cases rx
  have key : ∀ (T : String) (its : List Value) (n : Nat), (T = "list" ∨ T = "tuple") → (∃ o, s.heap.get? a = some o ∧ o.cls = .type T ∧ o.dict = none ∧ o.data = .seq its.toArray n) → Vals (bs.map V.ref) its → bs.length ≤ sizeLine →
      wpAny (model X.prog X.w) X.A (call (.type "dict") [.ref a]) (EP X pins σ Q) X.xe s := fun T its n hT ⟨o, ho, hcl, hd, hdat⟩ rv hz => by
    have ei := refs_at rv
    subst ei
    obtain ⟨prs, pv, rel, hl, hl2, hpr⟩ := pairs_in I hp
    have ok : PlainSeq T s.heap a (bs.map Value.ref).toArray ∧ PairItems s.heap (bs.map Value.ref).toArray (fun j => bs.getD j 0) pv := by
      refine ⟨⟨o, n, ho, hcl, hd, hdat⟩, by simp [hl2], fun j k v hj => ?_⟩
      obtain ⟨b, q, e1, e2, e3, e4, e5⟩ := hpr j (k, v) hj
      have hb : bs.getD j 0 = b := by rw [List.getD_eq_getElem?_getD, e1]; rfl
      refine ⟨by simp [e1], .inl ?_⟩
      show s.heap.IsTuple (bs.getD j 0) #[k, v]
      rw [hb]; exact e3
    have have_ : PairsHave (mixKind X.prog X.w) pv.length (PairRel pv) prs := ⟨by omega, fun i k v e => by
      obtain ⟨b, q, e1, e2, e3, e4, e5⟩ := hpr i (k, v) e
      refine ⟨q.1, ?_, e4⟩
      rw [e2, ← show q.2 = v from e5]⟩
    have fin : ∀ h' tk, h'.DictOf (mixKind X.prog X.w) s.heap.objs.size (merged [] prs) → (∀ b o, b ∉ ([] : List Addr) → s.heap.get? b = some o → h'.get? b = some o) → EP X pins σ Q (.ref s.heap.objs.size) { s with heap := h', toks := tk } := fun h' tk hd' k => by
      have hm : (s.heap.objs.size == sysModules) = false := beq_eq_false_iff_ne.mpr (Nat.ne_of_gt I.big)
      have hlen : (mergeK [] kvs).length ≤ sizeLine := by
        refine Nat.le_trans (length_mergeK kvs []) ?_
        rw [List.length_nil, Nat.zero_add, rel.length, hl]
        exact hz
      exact ⟨.ref s.heap.objs.size, _, I.laid (t' := tk) (o := .dK (mergeK [] kvs)) (fun b o e => k b o (by simp) e) (Nat.le_refl _) ⟨hlen, hm, merged [] prs, KV.merge rel .nil, hd'⟩, rfl, q _ (I.hok.fresh (Nat.le_refl _))⟩
    rcases hT with rfl | rfl
    · exact PySem.call_dict_pairs (PairArg.list a _ _ pv) (I.ok.hd hc) ok have_ (by omega) fin
    · exact PySem.call_dict_pairs (PairArg.tuple a _ _ pv) (I.ok.hd hc) ok have_ (by omega) fin
  rcases hq with hq | hq
  · obtain ⟨its, rv, ⟨o, n, ho, hcl, hd, hdat⟩, hz⟩ := I.list (.inl hq)
    rw [List.length_map] at hz
    exact key "list" its n (.inl rfl) ⟨o, ho, hcl, hd, hdat⟩ rv hz
  · rcases hq with ⟨o, hq, hd⟩ | ⟨o, its, n, hk, hcl, hd, hdat, hz, rv⟩
    · obtain ⟨ho, hz, its, rv, o', ho', hcl, n, hdat⟩ := I.hok a _ hq
      rw [ho] at ho'
      cases ho'
      rw [List.length_map] at hz
      exact key "tuple" its n (.inr rfl) ⟨o, ho, hcl, hd, hdat⟩ rv hz
    · have hl := rv.length
      have hl2 : its.toList.length = its.size := Array.length_toList
      rw [List.length_map] at hl
      exact key "tuple" its.toList n (.inr rfl) ⟨o, I.kIn a o hk, hcl, hd, by simpa using hdat⟩ rv (by omega)
end
section
variable {X : Cx} {cl : Cl} {E : XK}
theorem cd_dict (hc : X.calm = true) : CallD X cl E (.type "dict") dictD := CallR.imp (call_dict_seq hc) fun vs H Q ⟨ds, M, W, r, hH, hp⟩ => by
  match ds, r, hp with
  | [d], r, hp =>
    obtain ⟨v, rfl, r1⟩ := r.one_of
    have hp : Post X.K cl E (Rep X.K) W (match (seqOf M d).bind pairsOfD with | some ps => if ps.length ≤ sizeLine then newO (.dK (mergeKD [] ps)) M else none | none => none) Q := hp
    cases e : (seqOf M d).bind pairsOfD with
    | none => rw [e] at hp; exact hp.elim
    | some ps =>
      simp only [e] at hp
      by_cases c : ps.length ≤ sizeLine
      · rw [if_pos c] at hp
        obtain ⟨xs, e1, e2⟩ := Option.bind_eq_some_iff.mp e
        have main : ∃ a us, v = .ref a ∧ (Rd H a (.lst us) ∨ TupN X.K H a us) ∧ Reps X.K W xs us := by
          cases d with
          | tup ys =>
            cases e1
            obtain ⟨a, us, z, st, q⟩ := r1
            exact ⟨a, us, z, .inr (st.mono hH.gle), q⟩
          | lst ys => obtain ⟨a, us, z, s, q⟩ := lst_of hH r1 e1; exact ⟨a, us, z, .inl s, q⟩
          | obj n => obtain ⟨a, us, z, s, q⟩ := lst_of hH r1 e1; exact ⟨a, us, z, .inl s, q⟩
          | _ => cases e1
        obtain ⟨a, us, rfl, sq, q⟩ := main
        obtain ⟨bs, kvs, rfl, q1, q2⟩ := pairs_at (H := H) hH.gle q e2
        refine ⟨a, bs, kvs, rfl, sq, q1, fun p hn => ?_⟩
        have l : W.le ⟨W.ι ++ [p], W.G, W.F⟩ := ⟨fun n a e => by
          show (W.ι ++ [p])[n]? = some a
          rw [List.getElem?_append_left (List.getElem?_eq_some_iff.mp e).1]; exact e, fun _ _ e => e, fun _ _ e => e⟩
        obtain ⟨l1, h1, e3⟩ := hH.new (mo := .dK (mergeKD [] ps)) (o := .dK (mergeK [] kvs)) hn (fun z => nomatch z) ⟨_, rfl, Paired.imp (fun _ _ z => ⟨z.1, z.2.up l⟩) (merge_rel q2 .nil)⟩
        exact hp _ _ _ l1 ⟨p, rfl, e3⟩ h1
      · rw [if_neg c] at hp; exact hp.elim
  | [], _, hp => exact hp.elim
  | d :: _ :: _, _, hp => exact hp.elim
end
end DL

/-! DL: tuples of the module's top; pop; more running rules. -/
namespace DL
open PySem PySem.Spec PyProof.Rows L2
/-! ### constants -/
def tupC (K : PySem.W.Frag) (x : Str) (vs : List He.Dv) : Bool := match K.lookup (He.ga K x) with
  | some ⟨.type c, none, .seq its _, _⟩ => decide (c = "tuple") && (decide (its.size ≤ sizeLine) && He.relAll (vs.map (He.Dv.v K)) its.toList)
  | _ => false
theorem tupC_ok {K : PySem.W.Frag} {x : Str} {vs : List He.Dv} (h : tupC K x vs = true) (G : Hp) : TupN K G (He.ga K x) (vs.map (He.Dv.v K)) := by
  unfold tupC at h
  split at h
  · rename_i c its n sl e
    obtain ⟨h1, h2⟩ := Bool.and_eq_true_iff.mp h
    obtain ⟨h3, h4⟩ := Bool.and_eq_true_iff.mp h2
    exact .inr ⟨_, its, n, e, by rw [of_decide_eq_true h1], rfl, rfl, of_decide_eq_true h3, He.relAll_ok h4⟩
  · cases h
def dvD : He.Dv → D
  | .int i => .int i
  | .str x => .str x
  | _ => .non
def dvOk : He.Dv → Bool
  | .int _ => true
  | .str _ => true
  | .non => true
  | _ => false
theorem dv_reps {K : PySem.W.Frag} {W : Wd} : ∀ (vs : List He.Dv), vs.all dvOk = true → Reps K W (vs.map dvD) (vs.map (He.Dv.v K))
  | [], _ => rfl
  | v :: vs, h => by
    have h2 := Bool.and_eq_true_iff.mp (show (dvOk v && vs.all dvOk) = true from h)
    refine ⟨_, _, rfl, ?_, dv_reps vs h2.2⟩
    have h1 := h2.1
    cases v <;> first | rfl | (cases h1; done)
/-! ### xs.pop() -/
def popL (o : D) (ds : List D) : Mo D := fun M => match o, ds with
  | .obj n, [] => (match M[n]? with
    | some (.lst xs) => (match xs[xs.length - 1]? with
      | some y => some (.ok y, M.set n (.lst xs.dropLast))
      | none => none)
    | _ => none)
  | _, _ => none
section
variable {X : Cx} {cl : Cl} {E : XK}
theorem Reps.dropLast {K : PySem.W.Frag} {W : Wd} {ds : List D} {vs : List V} (h : Reps K W ds vs) : Reps K W ds.dropLast vs.dropLast := by
  rw [List.dropLast_eq_take, List.dropLast_eq_take, h.length]
  exact h.take _
theorem mk_pop : MtOk X cl E "list" rPop isObL popL where
  ty := fun o M W H v h r hH => obL_ty h r hH
  run := fun o ds M W H v vs Q r rs hH hp => by
    cases o with
    | obj n =>
      cases ds with
      | nil =>
        have e0 : vs = [] := rs
        subst e0
        obtain ⟨a, z, ea⟩ := r
        have hp : Post X.K cl E (Rep X.K) W ((match M[n]? with | some (.lst xs) => (match xs[xs.length - 1]? with | some y => some (.ok y, M.set n (.lst xs.dropLast)) | none => none) | _ => none : Out D)) Q := hp
        cases e : M[n]? with
        | none => simp only [e] at hp; exact hp.elim
        | some mo =>
          simp only [e] at hp
          cases mo with
          | lst xs =>
            simp only at hp
            cases e2 : xs[xs.length - 1]? with
            | none => rw [e2] at hp; exact hp.elim
            | some y =>
              rw [e2] at hp
              obtain ⟨us, ho, q⟩ := hH.getL e ea
              obtain ⟨u, e3, ru⟩ := q.get e2
              exact ⟨a, us, u, z, rfl, ho, by rw [q.length]; exact e3, hp W _ u (.refl W) ru (hH.putL e ea q.dropLast)⟩
          | _ => exact hp.elim
      | cons _ _ => exact hp.elim
    | _ => cases ds <;> exact hp.elim
end
/-! ### a, b, c = .. -/
def sPar3 (i j l : Nat) (a b c : XE) : XS := fun ρ => Mo.bnd (aL [a, b, c] ρ) fun ds => match ds with
  | [x, y, z] => Mo.ret (.nx (((ρ.set i (some x)).set j (some y)).set l (some z)))
  | _ => Mo.stop
section
variable {X : Cx} {cl : Cl} {E : XK} {a b c : Expr} {ma mb mc : XE}
theorem pds_par3 {x y z : Str} {px py pz pt pos : Pos} {kt k2 pt2} (i j l : Nat) (hc : X.calm = true) (hN : X.N.Nodup) (ha : PD X cl E a ma) (hb : PD X cl E b mb) (hcc : PD X cl E c mc) (hi : X.N[i]? = some x := by rfl) (hj : X.N[j]? = some y := by rfl) (hl : X.N[l]? = some z := by rfl) (hij : i ≠ j := by decide) (hil : i ≠ l := by decide) (hjl : j ≠ l := by decide)
    (hx : X.env.scope.names.lookup x = some .local := by rfl) (hy : X.env.scope.names.lookup y = some .local := by rfl) (hz : X.env.scope.names.lookup z = some .local := by rfl)
    (hw : swappedStores [.Tuple [.Name x px, .Name y py, .Name z pz] kt pt] (.Tuple [a, b, c] k2 pt2) X.env = pure (some [x, y, z]) := by rfl) (hs : swapsWithSole [.Tuple [.Name x px, .Name y py, .Name z pz] kt pt] (.Tuple [a, b, c] k2 pt2) pos.line X.env = pure false := by rfl)
    (h1 : starEach [a, b, c] X.env = (false, eval a X.env) :: starEach [b, c] X.env := by rfl) (h2 : starEach [b, c] X.env = (false, eval b X.env) :: starEach [c] X.env := by rfl) (h3 : starEach [c] X.env = (false, eval c X.env) :: starEach [] X.env := by rfl) :
    PDS X cl E (.Assign [.Tuple [.Name x px, .Name y py, .Name z pz] kt pt] (.Tuple [a, b, c] k2 pt2) pos) (sPar3 i j l ma mb mc) :=
  PS.imp (ps_par3 hc hN hi hj hl hij hil hjl hx hy hz (pda_cons ha (pda_cons hb (pda_cons hcc pda_nil h3) h2) h1) hw hs) fun Dn σ H ⟨ρ, M, W, hρ, hH, hp⟩ => ⟨ρ, M, W, hρ, hH, hp.seq fun ds M1 W1 H1 vs l1 r1 hH1 hp1 => by
    match ds, r1, hp1 with
    | [d, e, f], ⟨v, _, z1, rv, w, _, z2, rw', u, _, z3, ru, z4⟩, hp1 =>
      rw [z1, z2, z3, show _ = [] from z4]
      exact ⟨v, w, u, rfl, hp1.ret hH1 _ ((((hρ.up l1).set rv i).set rw' j).set ru l)⟩
    | [], _, hp1 => exact hp1.elim
    | [_], _, hp1 => exact hp1.elim
    | [_, _], _, hp1 => exact hp1.elim
    | _ :: _ :: _ :: _ :: _, _, hp1 => exact hp1.elim⟩
end
/-! ### running -/
section
variable {M : MS} {ρ : Rho} {QF : Fl → MS → Prop}
@[simp ↓] theorem w_sPar3 {i j l : Nat} {a b c : XE} : wp (sPar3 i j l a b c ρ) M QF = wp (a ρ) M fun x M1 => wp (b ρ) M1 fun y M2 => wp (c ρ) M2 fun z M3 => QF (.nx (((ρ.set i (some x)).set j (some y)).set l (some z))) M3 := by
  show wq _ M _ = _
  unfold sPar3; rw [wq_bndE]; simp only [q_aLc, q_aLn, q_ret]; rfl
end
section
variable {M : MS} {Q : D → MS → Prop} {ρ : Rho}
theorem w_mem {d e : D} {b : Bool} (h : memB M d e = some b) : wp (memD d e) M Q = Q (.bl b) M := wp_of (by unfold memD; rw [h])
theorem w_nmem {d e : D} {b : Bool} (h : memB M d e = some b) : wp (nmemD d e) M Q = Q (.bl (!b)) M := wp_of (by unfold nmemD; rw [h])
@[simp ↓] theorem w_newDF : wp (newDF ρ) M Q = Q (.obj M.length) (M ++ [.dF []]) := wp_of rfl
@[simp ↓] theorem w_newDK : wp (newDK ρ) M Q = Q (.obj M.length) (M ++ [.dK []]) := wp_of rfl
theorem w_ixG {d e v : D} (hs : seqOf M d = none) (hz : ∀ z, d ≠ .str z) (h : dAt M d e = some (some v)) : wp (ixD d e) M Q = Q v M := wp_of (by
  unfold ixD
  cases e with
  | int i => cases d <;> first | exact absurd rfl (hz _) | (simp only [hs, dGet, h])
  | _ => simp only [dGet, h])
theorem w_pop {n : Nat} {xs : List D} {y : D} (h : M[n]? = some (.lst xs)) (hy : xs[xs.length - 1]? = some y) : wp (popL (.obj n) []) M Q = Q y (M.set n (.lst xs.dropLast)) := wp_of (by unfold popL; simp only [h, hy])
theorem w_sorted {xs : List D} {ss : List Str} (h : strsOf xs = some ss) (hl : ss.length < 64) : wp (sortedD [.lst xs]) M Q = Q (.lst ((srtS ss).map D.str)) M := wp_of (by
  unfold sortedD; simp only [lstOf, Option.bind_some, h]; rw [if_pos hl])
@[simp ↓] theorem w_min {i j : Int} : wp (minD [.int i, .int j]) M Q = Q (.int (if j < i then j else i)) M := wp_of rfl
@[simp ↓] theorem w_max {i j : Int} : wp (maxD [.int i, .int j]) M Q = Q (.int (if j > i then j else i)) M := wp_of rfl
theorem w_mulT {xs : List D} {k : Int} (h0 : 0 ≤ k) (h1 : k ≤ 1000) (h2 : xs.length ≤ 1000) : wp (mulTD (.tup xs) (.int k)) M Q = Q (.tup (List.replicate k.toNat xs).flatten) M := wp_of (by
  show (if _ then Mo.ret _ else Mo.stop : Mo D) M = _
  rw [if_pos (by rw [decide_eq_true h0, decide_eq_true h1, decide_eq_true h2]; rfl)]; rfl)
end
end DL

/-! DL: sizes of values: what may be shown. -/
namespace DL
open PySem PySem.Spec PyProof.Rows L2
def codesB (z : Str) : Bool := z.cps.toList.all fun c => decide (c < 4294967296)
mutual
def tot : D → Nat
  | .str z => 10 * z.length + 8
  | .int i => i.natAbs + 8
  | .tup xs => 8 + tots xs
  | .lst xs => 8 + tots xs
  | _ => 8
def tots : List D → Nat
  | [] => 0
  | d :: ds => tot d + 4 + tots ds
end
def vB : Nat → D → Bool
  | 0, _ => false
  | k + 1, .tup xs => xs.all (vB k)
  | k + 1, .lst xs => xs.all (vB k)
  | _ + 1, .non => true
  | _ + 1, .bl _ => true
  | _ + 1, .int _ => true
  | _ + 1, .str z => codesB z
  | _ + 1, _ => false
theorem tots_app : ∀ xs ys : List D, tots (xs ++ ys) = tots xs + tots ys
  | [], ys => by simp [tots]
  | x :: xs, ys => by simp only [List.cons_append, tots, tots_app xs ys]; omega
theorem tot_mem : ∀ {xs : List D} {d : D}, d ∈ xs → tot d + 4 ≤ tots xs
  | x :: xs, d, h => by
    rcases List.mem_cons.mp h with rfl | h
    · simp only [tots]; omega
    · have := tot_mem h; simp only [tots]; omega
theorem tots_len : ∀ xs : List D, 12 * xs.length ≤ tots xs
  | [] => Nat.zero_le _
  | x :: xs => by
    have h := tots_len xs
    have : 8 ≤ tot x := by cases x <;> simp only [tot] <;> omega
    simp only [tots, List.length_cons]; omega
theorem tot_ge (d : D) : 8 ≤ tot d := by cases d <;> simp only [tot] <;> omega
theorem tots_take (xs : List D) (n : Nat) : tots (xs.take n) ≤ tots xs := by
  have := tots_app (xs.take n) (xs.drop n)
  rw [List.take_append_drop] at this; omega
theorem tots_drop (xs : List D) (n : Nat) : tots (xs.drop n) ≤ tots xs := by
  have := tots_app (xs.take n) (xs.drop n)
  rw [List.take_append_drop] at this; omega
theorem tots_rev : ∀ xs : List D, tots xs.reverse = tots xs
  | [] => rfl
  | x :: xs => by rw [List.reverse_cons, tots_app, tots_rev xs]; simp only [tots]; omega
theorem vB_mono : ∀ {k j : Nat} {d : D}, vB k d = true → k ≤ j → vB j d = true
  | 0, _, _, h, _ => nomatch h
  | k + 1, 0, _, _, l => absurd l (by omega)
  | k + 1, j + 1, .tup xs, h, l => by
    simp only [vB, List.all_eq_true] at h ⊢
    exact fun d hd => vB_mono (h d hd) (by omega)
  | k + 1, j + 1, .lst xs, h, l => by
    simp only [vB, List.all_eq_true] at h ⊢
    exact fun d hd => vB_mono (h d hd) (by omega)
  | _ + 1, _ + 1, .non, _, _ => rfl
  | _ + 1, _ + 1, .bl _, _, _ => rfl
  | _ + 1, _ + 1, .int _, _, _ => rfl
  | _ + 1, _ + 1, .str _, h, _ => h
theorem vB_plain : ∀ {k : Nat} {d : D}, vB k d = true → plain d = true
  | 0, _, h => nomatch h
  | k + 1, .tup xs, h => by
    simp only [vB, List.all_eq_true] at h
    exact plains_all.mpr fun d hd => vB_plain (h d hd)
  | k + 1, .lst xs, h => by
    simp only [vB, List.all_eq_true] at h
    exact plains_all.mpr fun d hd => vB_plain (h d hd)
  | _ + 1, .non, _ => rfl
  | _ + 1, .bl _, _ => rfl
  | _ + 1, .int _, _ => rfl
  | _ + 1, .str _, _ => rfl
theorem textFrom_le : ∀ (ts : List Str) (k : Nat) (acc : Str), (textFrom k acc ts).length ≤ acc.length + (ts.map fun t => t.length + 2).sum
  | [], _, acc => by simp [textFrom]
  | t :: ts, k, acc => by
    have h := textFrom_le ts (k + 1) (acc ++ (if k > 0 then ", " else "" : String) ++ t)
    unfold textFrom
    rw [strLen_append, strLen_append] at h
    have : (Str.ofString (if k > 0 then ", " else "" : String)).length ≤ 2 := by split <;> decide
    simp only [List.map_cons, List.sum_cons]
    omega
theorem joinC_le : ∀ ts : List Str, (Str.join ", " ts).length ≤ (ts.map fun t => t.length + 2).sum
  | [] => by simp [Str.join, Str.empty, Str.length]
  | [x] => by simp [Str.join]
  | x :: y :: r => by
    have h := joinC_le (y :: r)
    show (x ++ ", " ++ Str.join ", " (y :: r)).length ≤ _
    rw [strLen_append, strLen_append]
    simp only [List.map_cons, List.sum_cons] at h ⊢
    have : (Str.ofString ", ").length = 2 := by decide
    omega
theorem listText_le (ts : List Str) : (listText ts).length ≤ 2 + (ts.map fun t => t.length + 2).sum := by
  unfold listText
  rw [strLen_append]
  have h := textFrom_le ts 0 "["
  have h1 : (Str.ofString "[").length = 1 := by decide
  have h2 : (Str.ofString "]").length = 1 := by decide
  omega
theorem tupleText_le (ts : List Str) : (tupleText ts).length ≤ 3 + (ts.map fun t => t.length + 2).sum := by
  unfold tupleText
  rw [strLen_append, strLen_append]
  have h := joinC_le ts
  have h1 : ("(" : Str).length = 1 := by decide
  have h2 : (Str.ofString (if ts.length == 1 then ",)" else ")" : String)).length ≤ 2 := by split <;> decide
  omega
theorem shown_all : ∀ (k : Nat), (∀ d, vB k d = true → ∃ p, toPy d = some p ∧ p.shown.length ≤ tot d ∧ p.depth ≤ k ∧ (tot d ≤ 2 ^ 200 → p.showable = true)) → ∀ xs : List D, xs.all (vB k) = true →
    ∃ ps, toPys xs = some ps ∧ ((PyData.shownAll ps).map fun t => t.length + 2).sum ≤ tots xs ∧ PyData.depthAll ps ≤ k ∧ (tots xs ≤ 2 ^ 200 → PyData.showableAll ps = true)
  | k, ih, [], _ => ⟨[], rfl, by simp [PyData.shownAll], by simp [PyData.depthAll], fun _ => rfl⟩
  | k, ih, x :: xs, h => by
    have h2 := Bool.and_eq_true_iff.mp (show (vB k x && xs.all (vB k)) = true from h)
    obtain ⟨p, e, l, dp, sh⟩ := ih x h2.1
    obtain ⟨ps, e2, l2, dp2, sh2⟩ := shown_all k ih xs h2.2
    refine ⟨p :: ps, by unfold toPys; rw [e, e2], ?_, ?_, fun z => ?_⟩
    · simp only [PyData.shownAll, List.map_cons, List.sum_cons, tots]; omega
    · simp only [PyData.depthAll]; omega
    · simp only [tots] at z
      simp only [PyData.showableAll, sh (by omega), sh2 (by omega), Bool.and_self]
theorem shown_ok : ∀ (k : Nat) (d : D), vB k d = true → ∃ p, toPy d = some p ∧ p.shown.length ≤ tot d ∧ p.depth ≤ k ∧ (tot d ≤ 2 ^ 200 → p.showable = true)
  | 0, _, h => nomatch h
  | k + 1, .non, _ => ⟨.none, rfl, by decide, Nat.zero_le _, fun _ => rfl⟩
  | k + 1, .bl b, _ => ⟨.bool b, rfl, by cases b <;> decide, Nat.zero_le _, fun _ => rfl⟩
  | k + 1, .int i, _ => by
    refine ⟨.int i, rfl, ?_, Nat.zero_le _, fun z => ?_⟩
    · have := len_str_of_int i
      show (Str.ofString (toString i)).length ≤ i.natAbs + 8
      omega
    · simp only [tot] at z
      show decide (i.natAbs.log2 < 1920) = true
      have : i.natAbs < 2 ^ 201 := by
        have : (2:Nat) ^ 201 = 2 ^ 200 * 2 := by rw [Nat.pow_succ]
        omega
      exact decide_eq_true (Nat.lt_trans (PySem.Flt.log2_lt_of (by decide) this) (by decide))
  | k + 1, .str z, h => by
    refine ⟨.str z, rfl, ?_, Nat.zero_le _, fun _ => rfl⟩
    have := PySem.StrLaws.reprText_len z fun c hc => by
      have := List.all_eq_true.mp (show z.cps.toList.all (fun c => decide (c < 4294967296)) = true from h) c hc
      exact of_decide_eq_true this
    show (reprText z).length ≤ 10 * z.length + 8
    omega
  | k + 1, .tup xs, h => by
    obtain ⟨ps, e, l, dp, sh⟩ := shown_all k (fun d => shown_ok k d) xs h
    refine ⟨.tuple ps, by unfold toPy; rw [e]; rfl, ?_, ?_, fun z => ?_⟩
    · have := tupleText_le (PyData.shownAll ps)
      simp only [PyData.shown, tot]; omega
    · simp only [PyData.depth]; omega
    · simp only [tot] at z
      simp only [PyData.showable]; exact sh (by omega)
  | k + 1, .lst xs, h => by
    obtain ⟨ps, e, l, dp, sh⟩ := shown_all k (fun d => shown_ok k d) xs h
    refine ⟨.list ps, by unfold toPy; rw [e]; rfl, ?_, ?_, fun z => ?_⟩
    · have := listText_le (PyData.shownAll ps)
      simp only [PyData.shown, tot]; omega
    · simp only [PyData.depth]; omega
    · simp only [tot] at z
      simp only [PyData.showable]; exact sh (by omega)
/-- what may be shown: a value of that size, or {} -/
def showB (k n : Nat) (d : D) : Prop := d = .emp ∨ (vB k d = true ∧ tot d ≤ n)
theorem repr_val {k n : Nat} {d : D} (h : showB k n d) (hk : k ≤ 60) (hn : n ≤ 16000000) : ∃ x, ∀ M : MS, reprD [d] M = some (.ok (.str x), M) := by
  rcases h with rfl | ⟨h, hs⟩
  · exact ⟨_, fun _ => rfl⟩
  · obtain ⟨p, e, l, dp, sh⟩ := shown_ok k d h
    refine ⟨p.shown, fun M => ?_⟩
    have ok : reprOk p = true := by
      unfold reprOk
      have h1 : p.showable = true := sh (Nat.le_trans hs (Nat.le_trans hn (Nat.le_trans (by decide : 16000000 ≤ 2 ^ 24) (Nat.pow_le_pow_right (by decide) (by decide)))))
      rw [h1, decide_eq_true (by omega), decide_eq_true (by rw [sizeLine_eq]; omega)]; rfl
    cases d <;> first
      | (cases e; done)
      | (unfold reprD; simp only [e, ok, if_true, x_ret])
end DL
namespace DL
open PySem PySem.Spec PyProof.Rows L2
theorem codes_str (s : String) : codesB (Str.ofString s) = true := by
  unfold codesB
  rw [List.all_eq_true]
  intro c hc
  rw [Str.ofString_eq_toList] at hc
  simp only [List.mem_map] at hc
  obtain ⟨ch, _, rfl⟩ := hc
  have : ch.val.toNat < 4294967296 := ch.val.toNat_lt
  exact decide_eq_true this
theorem showB_plain {k n : Nat} {d : D} (h : showB k n d) : plain d = true := by
  rcases h with rfl | ⟨h, _⟩
  · rfl
  · exact vB_plain h
theorem showB.mono {k j n m : Nat} {d : D} (h : showB k n d) (l : k ≤ j) (l2 : n ≤ m) : showB j m d := h.imp id fun h => ⟨vB_mono h.1 l, Nat.le_trans h.2 l2⟩
theorem vB_tup {k : Nat} {xs : List D} : vB (k + 1) (.tup xs) = xs.all (vB k) := rfl
theorem vB_lst {k : Nat} {xs : List D} : vB (k + 1) (.lst xs) = xs.all (vB k) := rfl
end DL

namespace Law
open PySem PySem.Spec PyProof.Rows L2 DL
def topS (i : Nat) : Stmt := PySem.Challenge.pw_degreewise_k03_whole_degrees.main.body.getD i (.Pass ⟨0, 0, 0, 0⟩)
abbrev s_is_integer : Stmt := topS 1
abbrev s_common : Stmt := topS 2
abbrev s_fraction : Stmt := topS 3
abbrev s_is_fraction : Stmt := topS 6
abbrev s_added : Stmt := topS 7
abbrev s_less : Stmt := topS 8
abbrev s_is_below : Stmt := topS 9
abbrev s_lesser : Stmt := topS 10
abbrev s_greater : Stmt := topS 11
abbrev s_is_degree : Stmt := topS 12
abbrev s_is_word : Stmt := topS 17
abbrev s_parts_below : Stmt := topS 18
abbrev s_parts_of : Stmt := topS 19
abbrev s_is_valuation : Stmt := topS 20
abbrev s_put_together : Stmt := topS 21
abbrev s_degree_of : Stmt := topS 22
abbrev s_is_full : Stmt := topS 23
abbrev s__law_pool : Stmt := topS 25
abbrev s__law_common : Stmt := topS 26
abbrev s__law_fraction : Stmt := topS 27
abbrev s__law_spread : Stmt := topS 28
abbrev s__law_draw : Stmt := topS 29
abbrev s__law_valuation : Stmt := topS 30
abbrev s__law_pick : Stmt := topS 31
abbrev s__law_formula : Stmt := topS 32
abbrev s__law_theory : Stmt := topS 33
abbrev s__law_same : Stmt := topS 34
abbrev s__law_units : Stmt := topS 35
abbrev s__law_degree : Stmt := topS 36
abbrev s__law_full : Stmt := topS 37
abbrev s__law_spots : Stmt := topS 38
abbrev s__law_spot_put : Stmt := topS 39
abbrev s__law_bent_spot : Stmt := topS 40
abbrev s__law_spot : Stmt := topS 41
abbrev s__law_odd_values : Stmt := topS 42
abbrev s__law_bent : Stmt := topS 43
abbrev s__law_is_word : Stmt := topS 44
abbrev s__law_is_integer : Stmt := topS 45
abbrev s__law_is_row : Stmt := topS 46
abbrev s__law_is_fraction : Stmt := topS 47
abbrev s__law_is_degree : Stmt := topS 48
abbrev s__law_is_valuation : Stmt := topS 49
abbrev s_law : Stmt := topS 50
def d_is_integer : He.DefD := ⟨("is_integer", none), "is_integer", "is_integer", defArgs s_is_integer, defBody s_is_integer, defScope s_is_integer, [], []⟩
def d_common : He.DefD := ⟨("common", none), "common", "common", defArgs s_common, defBody s_common, defScope s_common, [], []⟩
def d_fraction : He.DefD := ⟨("fraction", none), "fraction", "fraction", defArgs s_fraction, defBody s_fraction, defScope s_fraction, [], []⟩
def d_is_fraction : He.DefD := ⟨("is_fraction", none), "is_fraction", "is_fraction", defArgs s_is_fraction, defBody s_is_fraction, defScope s_is_fraction, [], []⟩
def d_added : He.DefD := ⟨("added", none), "added", "added", defArgs s_added, defBody s_added, defScope s_added, [], []⟩
def d_less : He.DefD := ⟨("less", none), "less", "less", defArgs s_less, defBody s_less, defScope s_less, [], []⟩
def d_is_below : He.DefD := ⟨("is_below", none), "is_below", "is_below", defArgs s_is_below, defBody s_is_below, defScope s_is_below, [], []⟩
def d_lesser : He.DefD := ⟨("lesser", none), "lesser", "lesser", defArgs s_lesser, defBody s_lesser, defScope s_lesser, [], []⟩
def d_greater : He.DefD := ⟨("greater", none), "greater", "greater", defArgs s_greater, defBody s_greater, defScope s_greater, [], []⟩
def d_is_degree : He.DefD := ⟨("is_degree", none), "is_degree", "is_degree", defArgs s_is_degree, defBody s_is_degree, defScope s_is_degree, [], []⟩
def d_is_word : He.DefD := ⟨("is_word", none), "is_word", "is_word", defArgs s_is_word, defBody s_is_word, defScope s_is_word, [], []⟩
def d_parts_below : He.DefD := ⟨("parts_below", none), "parts_below", "parts_below", defArgs s_parts_below, defBody s_parts_below, defScope s_parts_below, [], []⟩
def d_parts_of : He.DefD := ⟨("parts_of", none), "parts_of", "parts_of", defArgs s_parts_of, defBody s_parts_of, defScope s_parts_of, [], []⟩
def d_is_valuation : He.DefD := ⟨("is_valuation", none), "is_valuation", "is_valuation", defArgs s_is_valuation, defBody s_is_valuation, defScope s_is_valuation, [], []⟩
def d_put_together : He.DefD := ⟨("put_together", none), "put_together", "put_together", defArgs s_put_together, defBody s_put_together, defScope s_put_together, [], []⟩
def d_degree_of : He.DefD := ⟨("degree_of", none), "degree_of", "degree_of", defArgs s_degree_of, defBody s_degree_of, defScope s_degree_of, [], []⟩
def d_is_full : He.DefD := ⟨("is_full", none), "is_full", "is_full", defArgs s_is_full, defBody s_is_full, defScope s_is_full, [], []⟩
def d__law_pool : He.DefD := ⟨("_law_pool", none), "_law_pool", "_law_pool", defArgs s__law_pool, defBody s__law_pool, defScope s__law_pool, [], []⟩
def d__law_common : He.DefD := ⟨("_law_common", none), "_law_common", "_law_common", defArgs s__law_common, defBody s__law_common, defScope s__law_common, [], []⟩
def d__law_fraction : He.DefD := ⟨("_law_fraction", none), "_law_fraction", "_law_fraction", defArgs s__law_fraction, defBody s__law_fraction, defScope s__law_fraction, [], []⟩
def d__law_spread : He.DefD := ⟨("_law_spread", none), "_law_spread", "_law_spread", defArgs s__law_spread, defBody s__law_spread, defScope s__law_spread, [], []⟩
def d__law_draw : He.DefD := ⟨("_law_draw", none), "_law_draw", "_law_draw", defArgs s__law_draw, defBody s__law_draw, defScope s__law_draw, [], []⟩
def d__law_valuation : He.DefD := ⟨("_law_valuation", none), "_law_valuation", "_law_valuation", defArgs s__law_valuation, defBody s__law_valuation, defScope s__law_valuation, [], []⟩
def d__law_pick : He.DefD := ⟨("_law_pick", none), "_law_pick", "_law_pick", defArgs s__law_pick, defBody s__law_pick, defScope s__law_pick, [], []⟩
def d__law_formula : He.DefD := ⟨("_law_formula", none), "_law_formula", "_law_formula", defArgs s__law_formula, defBody s__law_formula, defScope s__law_formula, [], []⟩
def d__law_theory : He.DefD := ⟨("_law_theory", none), "_law_theory", "_law_theory", defArgs s__law_theory, defBody s__law_theory, defScope s__law_theory, [], []⟩
def d__law_same : He.DefD := ⟨("_law_same", none), "_law_same", "_law_same", defArgs s__law_same, defBody s__law_same, defScope s__law_same, [], []⟩
def d__law_units : He.DefD := ⟨("_law_units", none), "_law_units", "_law_units", defArgs s__law_units, defBody s__law_units, defScope s__law_units, [], []⟩
def d__law_degree : He.DefD := ⟨("_law_degree", none), "_law_degree", "_law_degree", defArgs s__law_degree, defBody s__law_degree, defScope s__law_degree, [], []⟩
def d__law_full : He.DefD := ⟨("_law_full", none), "_law_full", "_law_full", defArgs s__law_full, defBody s__law_full, defScope s__law_full, [], []⟩
def d__law_spots : He.DefD := ⟨("_law_spots", none), "_law_spots", "_law_spots", defArgs s__law_spots, defBody s__law_spots, defScope s__law_spots, [], []⟩
def d__law_spot_put : He.DefD := ⟨("_law_spot_put", none), "_law_spot_put", "_law_spot_put", defArgs s__law_spot_put, defBody s__law_spot_put, defScope s__law_spot_put, [], []⟩
def d__law_bent_spot : He.DefD := ⟨("_law_bent_spot", none), "_law_bent_spot", "_law_bent_spot", defArgs s__law_bent_spot, defBody s__law_bent_spot, defScope s__law_bent_spot, [], []⟩
def d__law_spot : He.DefD := ⟨("_law_spot", none), "_law_spot", "_law_spot", defArgs s__law_spot, defBody s__law_spot, defScope s__law_spot, [], []⟩
def d__law_odd_values : He.DefD := ⟨("_law_odd_values", none), "_law_odd_values", "_law_odd_values", defArgs s__law_odd_values, defBody s__law_odd_values, defScope s__law_odd_values, [], []⟩
def d__law_bent : He.DefD := ⟨("_law_bent", none), "_law_bent", "_law_bent", defArgs s__law_bent, defBody s__law_bent, defScope s__law_bent, [], []⟩
def d__law_is_word : He.DefD := ⟨("_law_is_word", none), "_law_is_word", "_law_is_word", defArgs s__law_is_word, defBody s__law_is_word, defScope s__law_is_word, [], []⟩
def d__law_is_integer : He.DefD := ⟨("_law_is_integer", none), "_law_is_integer", "_law_is_integer", defArgs s__law_is_integer, defBody s__law_is_integer, defScope s__law_is_integer, [], []⟩
def d__law_is_row : He.DefD := ⟨("_law_is_row", none), "_law_is_row", "_law_is_row", defArgs s__law_is_row, defBody s__law_is_row, defScope s__law_is_row, [], []⟩
def d__law_is_fraction : He.DefD := ⟨("_law_is_fraction", none), "_law_is_fraction", "_law_is_fraction", defArgs s__law_is_fraction, defBody s__law_is_fraction, defScope s__law_is_fraction, [], []⟩
def d__law_is_degree : He.DefD := ⟨("_law_is_degree", none), "_law_is_degree", "_law_is_degree", defArgs s__law_is_degree, defBody s__law_is_degree, defScope s__law_is_degree, [], []⟩
def d__law_is_valuation : He.DefD := ⟨("_law_is_valuation", none), "_law_is_valuation", "_law_is_valuation", defArgs s__law_is_valuation, defBody s__law_is_valuation, defScope s__law_is_valuation, [], []⟩
def d_law : He.DefD := ⟨("law", none), "law", "law", defArgs s_law, defBody s_law, defScope s_law, [], []⟩
def fn : List He.DefD := [d_is_integer, d_common, d_fraction, d_is_fraction, d_added, d_less, d_is_below, d_lesser, d_greater, d_is_degree, d_is_word, d_parts_below, d_parts_of, d_is_valuation, d_put_together, d_degree_of, d_is_full, d__law_pool, d__law_common, d__law_fraction, d__law_spread, d__law_draw, d__law_valuation, d__law_pick, d__law_formula, d__law_theory, d__law_same, d__law_units, d__law_degree, d__law_full, d__law_spots, d__law_spot_put, d__law_bent_spot, d__law_spot, d__law_odd_values, d__law_bent, d__law_is_word, d__law_is_integer, d__law_is_row, d__law_is_fraction, d__law_is_degree, d__law_is_valuation, d_law]
def fa : List He.Fa := [.glo "is_integer", .glo "common", .glo "fraction", .glo "is_fraction", .glo "added", .glo "less", .glo "is_below", .glo "lesser", .glo "greater", .glo "is_degree", .glo "is_word", .glo "parts_below", .glo "parts_of", .glo "is_valuation", .glo "put_together", .glo "degree_of", .glo "is_full", .glo "_law_pool", .glo "_law_common", .glo "_law_fraction", .glo "_law_spread", .glo "_law_draw", .glo "_law_valuation", .glo "_law_pick", .glo "_law_formula", .glo "_law_theory", .glo "_law_same", .glo "_law_units", .glo "_law_degree", .glo "_law_full", .glo "_law_spots", .glo "_law_spot_put", .glo "_law_bent_spot", .glo "_law_spot", .glo "_law_odd_values", .glo "_law_bent", .glo "_law_is_word", .glo "_law_is_integer", .glo "_law_is_row", .glo "_law_is_fraction", .glo "_law_is_degree", .glo "_law_is_valuation", .glo "law", .free "abs", .free "all", .free "bool", .free "dict", .free "int", .free "isinstance", .free "len", .free "list", .free "max", .free "min", .free "range", .free "repr", .free "sorted", .free "str", .free "tuple", .free "zip", .glo "ZERO", .glo "ONE", .str "LETTERS" "abcdefghijklmnopqrstuvwxyz", .glo "TAKEN", .int "MOST_LETTERS" 12]
def ex (K : PySem.W.Frag) : Bool := (DL.tupC K "ZERO" [.int 0, .int 1]) && (DL.tupC K "ONE" [.int 1, .int 1]) && (DL.tupC K "TAKEN" [.str "all", .str "and", .str "for", .str "join", .str "meet", .str "none", .str "not", .str "or", .str "then"])
structure Txt (K : PySem.W.Frag) (mg : Str → Option Value) : Prop where
  d : He.SaysD fa fn K
  g : ∀ x, (He.Fa.glo x).ok K = true → mg x = some (.ref (He.ga K x))
  f : ∀ x, (He.Fa.free x).ok K = true → mg x = none
  i : ∀ x i, (He.Fa.int x i).ok K = true → ∃ t, mg x = some (.int i t)
  s : ∀ x z, (He.Fa.str x z).ok K = true → ∃ t, mg x = some (.str z t)
  e : ex K = true
theorem ex_ok0 {K : PySem.W.Frag} (h : ex K = true) : (DL.tupC K "ZERO" [.int 0, .int 1]) = true := (Bool.and_eq_true_iff.mp (Bool.and_eq_true_iff.mp h).1).1
theorem ex_ok1 {K : PySem.W.Frag} (h : ex K = true) : (DL.tupC K "ONE" [.int 1, .int 1]) = true := (Bool.and_eq_true_iff.mp (Bool.and_eq_true_iff.mp h).1).2
theorem ex_ok2 {K : PySem.W.Frag} (h : ex K = true) : (DL.tupC K "TAKEN" [.str "all", .str "and", .str "for", .str "join", .str "meet", .str "none", .str "not", .str "or", .str "then"]) = true := (Bool.and_eq_true_iff.mp h).2
def c_TAKEN : D := .tup [.str "all", .str "and", .str "for", .str "join", .str "meet", .str "none", .str "not", .str "or", .str "then"]
theorem k_TAKEN {K : PySem.W.Frag} {mg : Str → Option Value} {X : Cx} {cl : Cl} {E : XK} {pos : Pos} (T : Txt K mg) (hX : X.mg = mg) (hK : X.K = K) (hg : Gl X "TAKEN") : PD X cl E (.Name "TAKEN" pos) (eC c_TAKEN) := by
  have e := tupC_ok (ex_ok2 T.e)
  subst hX hK
  exact pd_glob (v := .ref (He.ga X.K "TAKEN")) hg (T.g _ (T.d.fact 62 (f := .glo "TAKEN") rfl)) rfl fun W => ⟨_, _, rfl, e W.G, dv_reps (K := X.K) (W := W) [.str "all", .str "and", .str "for", .str "join", .str "meet", .str "none", .str "not", .str "or", .str "then"] rfl⟩
def c_MOST_LETTERS : D := .int 12
theorem k_MOST_LETTERS {K : PySem.W.Frag} {mg : Str → Option Value} {X : Cx} {cl : Cl} {E : XK} {pos : Pos} (T : Txt K mg) (hX : X.mg = mg) (hK : X.K = K) (hg : Gl X "MOST_LETTERS") : PD X cl E (.Name "MOST_LETTERS" pos) (eC c_MOST_LETTERS) := by
  obtain ⟨t, e⟩ := T.i _ _ (T.d.fact 63 (f := .int "MOST_LETTERS" 12) rfl)
  subst hX hK
  exact pd_glob (v := .int 12) hg e ⟨t, rfl⟩ fun _ => rfl
def c_LETTERS : D := .str "abcdefghijklmnopqrstuvwxyz"
theorem k_LETTERS {K : PySem.W.Frag} {mg : Str → Option Value} {X : Cx} {cl : Cl} {E : XK} {pos : Pos} (T : Txt K mg) (hX : X.mg = mg) (hK : X.K = K) (hg : Gl X "LETTERS") : PD X cl E (.Name "LETTERS" pos) (eC c_LETTERS) := by
  obtain ⟨t, e⟩ := T.s _ _ (T.d.fact 61 (f := .str "LETTERS" "abcdefghijklmnopqrstuvwxyz") rfl)
  subst hX hK
  exact pd_glob (v := .str "abcdefghijklmnopqrstuvwxyz") hg e ⟨t, rfl⟩ fun _ => rfl
def c_ONE : D := .tup [.int 1, .int 1]
theorem k_ONE {K : PySem.W.Frag} {mg : Str → Option Value} {X : Cx} {cl : Cl} {E : XK} {pos : Pos} (T : Txt K mg) (hX : X.mg = mg) (hK : X.K = K) (hg : Gl X "ONE") : PD X cl E (.Name "ONE" pos) (eC c_ONE) := by
  have e := tupC_ok (ex_ok1 T.e)
  subst hX hK
  exact pd_glob (v := .ref (He.ga X.K "ONE")) hg (T.g _ (T.d.fact 60 (f := .glo "ONE") rfl)) rfl fun W => ⟨_, _, rfl, e W.G, dv_reps (K := X.K) (W := W) [.int 1, .int 1] rfl⟩
def c_ZERO : D := .tup [.int 0, .int 1]
theorem k_ZERO {K : PySem.W.Frag} {mg : Str → Option Value} {X : Cx} {cl : Cl} {E : XK} {pos : Pos} (T : Txt K mg) (hX : X.mg = mg) (hK : X.K = K) (hg : Gl X "ZERO") : PD X cl E (.Name "ZERO" pos) (eC c_ZERO) := by
  have e := tupC_ok (ex_ok0 T.e)
  subst hX hK
  exact pd_glob (v := .ref (He.ga X.K "ZERO")) hg (T.g _ (T.d.fact 59 (f := .glo "ZERO") rfl)) rfl fun W => ⟨_, _, rfl, e W.G, dv_reps (K := X.K) (W := W) [.int 0, .int 1] rfl⟩
section
variable {P : Program} {w : World} {K : PySem.W.Frag} {mg : Str → Option Value} {base : Heap} {cl : Cl}
def m_is_integer : XS :=
  sRet (eAn (e1 (isiD .int) (eV 0)) (eNo (e1 (isiD .bool) (eV 0))))
theorem sc_is_integer : FnScope ["value"] ["value"] (defScope s_is_integer) := ⟨rfl, rfl, rfl, by decide +kernel, rfl, by decide +kernel, by decide +kernel⟩
theorem ok_is_integer (hw : cl.w = w) (T : Txt K mg) {k : Nat} : DefOk P w K mg base cl "is_integer" (k + 1) 1 (fnB 1 (m_is_integer)) := by
  obtain ⟨fd, Fd⟩ := T.d.def_ 0 (d := d_is_integer) rfl
  have sc := sc_is_integer
  have b_isinstance : mg "isinstance" = none := T.f _ (T.d.fact 48 (f := .free "isinstance") rfl)
  have b_int : mg "int" = none := T.f _ (T.d.fact 47 (f := .free "int") rfl)
  have b_bool : mg "bool" = none := T.f _ (T.d.fact 45 (f := .free "bool") rfl)
  refine okD (N := ["value"]) (ps := ["value"]) Fd sc (T.g _ (T.d.fact 0 (f := .glo "is_integer") rfl)) (fun _ _ _ _ _ _ us hl => match us, hl with | [_], _ => rfl) fun cdv A outer s H E hr tk ow => ?_
  exact (pds_one (pds_ret (pd_and (pd_isi .int (by rfl) b_isinstance (by rfl) b_int boot_isinstance (by decide +kernel) (pd_v 0)) (pd_one (pd_not (pd_isi .bool (by rfl) b_isinstance (by rfl) b_bool boot_isinstance (by decide +kernel) (pd_v 0)))))))
noncomputable def F_is_integer : Fn := fnB 1 (m_is_integer)
theorem G_is_integer (hw : cl.w = w) (T : Txt K mg) : DefOk P w K mg base cl "is_integer" 1 1 F_is_integer := ok_is_integer hw T (k := 0)
noncomputable def m_common : XS :=
  sSeq (sWh (tV (e2 gtD (eV 1) (eC (.int 0)))) (sPar 0 1 (eV 1) (e2 modD (eV 0) (eV 1)))) (sRet (eV 0))
theorem sc_common : FnScope ["one", "two"] ["one", "two"] (defScope s_common) := ⟨rfl, rfl, rfl, by decide +kernel, rfl, by decide +kernel, by decide +kernel⟩
theorem ok_common (hw : cl.w = w) (T : Txt K mg) {k : Nat} : DefOk P w K mg base cl "common" (k + 1) 2 (fnB 2 (m_common)) := by
  obtain ⟨fd, Fd⟩ := T.d.def_ 1 (d := d_common) rfl
  have sc := sc_common
  refine okD (N := ["one", "two"]) (ps := ["one", "two"]) Fd sc (T.g _ (T.d.fact 1 (f := .glo "common") rfl)) (fun _ _ _ _ _ _ us hl => match us, hl with | [_, _], _ => rfl) fun cdv A outer s H E hr tk ow => ?_
  exact (pds_cons (pds_while ow (pdt_cmp od_gt (pd_v 1) pd_int (nomark _)) (pds_one (pds_par 0 1 rfl sc.nd (pd_v 1) (pd_op od_mod (pd_v 0) (pd_v 1))))) (pds_one (pds_ret (pd_v 0))))
noncomputable def F_common : Fn := fnB 2 (m_common)
theorem G_common (hw : cl.w = w) (T : Txt K mg) : DefOk P w K mg base cl "common" 1 2 F_common := ok_common hw T (k := 0)
def m_fraction (F_common : Fn) : XS :=
  sSeq (sIf (tV (e2 ltD (eV 1) (eC (.int 0)))) (sPar 0 1 (e1 negD (eV 0)) (e1 negD (eV 1))) (sNext)) (sSeq (sAsg (eB F_common [eB absD [eV 0], eV 1]) (gN 2)) (sRet (eTup [e2 fdivD (eV 0) (eV 2), e2 fdivD (eV 1) (eV 2)])))
theorem sc_fraction : FnScope ["over", "under", "shared"] ["over", "under"] (defScope s_fraction) := ⟨rfl, rfl, rfl, by decide +kernel, rfl, by decide +kernel, by decide +kernel⟩
theorem ok_fraction (hw : cl.w = w) (T : Txt K mg) {k : Nat} {F_common : Fn} {k_common : Nat} (G_common : DefOk P w K mg base cl "common" k_common 2 F_common) (l_common : k_common ≤ k) : DefOk P w K mg base cl "fraction" (k + 1) 2 (fnB 3 (m_fraction F_common)) := by
  obtain ⟨fd, Fd⟩ := T.d.def_ 2 (d := d_fraction) rfl
  have sc := sc_fraction
  have b_abs : mg "abs" = none := T.f _ (T.d.fact 43 (f := .free "abs") rfl)
  refine okD (N := ["over", "under", "shared"]) (ps := ["over", "under"]) Fd sc (T.g _ (T.d.fact 2 (f := .glo "fraction") rfl)) (fun _ _ _ _ _ _ us hl => match us, hl with | [_, _], _ => rfl) fun cdv A outer s H E hr tk ow => ?_
  exact (pds_cons (pds_if (pdt_cmp od_lt (pd_v 1) pd_int (nomark _)) (pds_one (pds_par 0 1 rfl sc.nd (pd_neg (pd_v 0)) (pd_neg (pd_v 1)))) pds_nil) (pds_cons (pds_set 2 sc.nd (pd_call G_common hr tk (pda_cons (pd_B cd_abs (by rfl) b_abs boot_abs (pda_cons (pd_v 0) pda_nil)) (pda_cons (pd_v 1) pda_nil)))) (pds_one (pds_ret (pd_tup (pda_cons (pd_op od_fdiv (pd_v 0) (pd_v 2)) (pda_cons (pd_op od_fdiv (pd_v 1) (pd_v 2)) pda_nil)))))))
noncomputable def F_fraction : Fn := fnB 3 (m_fraction F_common)
theorem G_fraction (hw : cl.w = w) (T : Txt K mg) : DefOk P w K mg base cl "fraction" 2 2 F_fraction := ok_fraction hw T (k := 1) (G_common hw T) (by decide)
noncomputable def m_is_fraction (F_is_integer : Fn) (F_common : Fn) : XS :=
  sSeq (sIf (tOrr (tNo (tV (e1 (isiD .tuple) (eV 0)))) (tOrr (tV (e2 neD (eB lenD [eV 0]) (eC (.int 2)))) (tNo (tV (eB allD [eLc (iS (eV 0)) (.one 1) (tAll) (eB F_is_integer [eV 1]) [1]]))))) (sRet (eC (.bl false))) (sNext)) (sRet (eAn (e2 geD (e2 ixD (eV 0) (eC (.int 1))) (eC (.int 1))) (e2 eqD (eB F_common [eB absD [e2 ixD (eV 0) (eC (.int 0))], e2 ixD (eV 0) (eC (.int 1))]) (eC (.int 1)))))
theorem sc_is_fraction : FnScope ["value", "part"] ["value"] (defScope s_is_fraction) := ⟨rfl, rfl, rfl, by decide +kernel, rfl, by decide +kernel, by decide +kernel⟩
theorem ok_is_fraction (hw : cl.w = w) (T : Txt K mg) {k : Nat} {F_is_integer : Fn} {k_is_integer : Nat} (G_is_integer : DefOk P w K mg base cl "is_integer" k_is_integer 1 F_is_integer) {F_common : Fn} {k_common : Nat} (G_common : DefOk P w K mg base cl "common" k_common 2 F_common) (l_is_integer : k_is_integer ≤ k) (l_common : k_common ≤ k) : DefOk P w K mg base cl "is_fraction" (k + 1) 1 (fnB 2 (m_is_fraction F_is_integer F_common)) := by
  obtain ⟨fd, Fd⟩ := T.d.def_ 3 (d := d_is_fraction) rfl
  have sc := sc_is_fraction
  have b_isinstance : mg "isinstance" = none := T.f _ (T.d.fact 48 (f := .free "isinstance") rfl)
  have b_tuple : mg "tuple" = none := T.f _ (T.d.fact 57 (f := .free "tuple") rfl)
  have b_len : mg "len" = none := T.f _ (T.d.fact 49 (f := .free "len") rfl)
  have b_all : mg "all" = none := T.f _ (T.d.fact 44 (f := .free "all") rfl)
  have b_abs : mg "abs" = none := T.f _ (T.d.fact 43 (f := .free "abs") rfl)
  refine okD (N := ["value", "part"]) (ps := ["value"]) Fd sc (T.g _ (T.d.fact 3 (f := .glo "is_fraction") rfl)) (fun _ _ _ _ _ _ us hl => match us, hl with | [_], _ => rfl) fun cdv A outer s H E hr tk ow => ?_
  exact (pds_cons (pds_if (pdt_bool (pdw_or (pdt_not (pdt_val (pd_isi .tuple (by rfl) b_isinstance (by rfl) b_tuple boot_isinstance (by decide +kernel) (pd_v 0)))) (pdw_or (pdt_cmp (od_ne hr.units) (pd_B cd_len (by rfl) b_len boot_len (pda_cons (pd_v 0) pda_nil)) pd_int (nomark _)) (pdw_or1 (pdt_not (pdt_val (pd_B (cd_all rfl) (by rfl) b_all boot_all (pda_cons (pd_lc (own := [("part", 1)]) (g := .one 1) rfl sc.nd (pdi_seq (pd_v 0)) (by kernel_rfl) (fun _ _ _ _ _ => (pg_name (i := 1) sc.nd rfl (Or.inl rfl))) (fun _ _ _ _ _ => pts_all) (fun _ _ _ _ _ => (pd_call G_is_integer hr takes0 (pda_cons (pd_v 1) pda_nil)))) pda_nil)))))))) (pds_one (pds_ret pd_bl)) pds_nil) (pds_one (pds_ret (pd_and (pd_cmp od_ge (pd_ix (room100 hr) hw (pd_v 0) pd_int) pd_int (nomark _)) (pd_one (pd_cmp (od_eq hr.units) (pd_call G_common hr tk (pda_cons (pd_B cd_abs (by rfl) b_abs boot_abs (pda_cons (pd_ix (room100 hr) hw (pd_v 0) pd_int) pda_nil)) (pda_cons (pd_ix (room100 hr) hw (pd_v 0) pd_int) pda_nil))) pd_int (nomark _)))))))
noncomputable def F_is_fraction : Fn := fnB 2 (m_is_fraction F_is_integer F_common)
theorem G_is_fraction (hw : cl.w = w) (T : Txt K mg) : DefOk P w K mg base cl "is_fraction" 2 1 F_is_fraction := ok_is_fraction hw T (k := 1) (G_is_integer hw T) (G_common hw T) (by decide) (by decide)
def m_added (F_fraction : Fn) : XS :=
  sRet (eB F_fraction [e2 addD (e2 mulD (e2 ixD (eV 0) (eC (.int 0))) (e2 ixD (eV 1) (eC (.int 1)))) (e2 mulD (e2 ixD (eV 1) (eC (.int 0))) (e2 ixD (eV 0) (eC (.int 1)))), e2 mulD (e2 ixD (eV 0) (eC (.int 1))) (e2 ixD (eV 1) (eC (.int 1)))])
theorem sc_added : FnScope ["one", "two"] ["one", "two"] (defScope s_added) := ⟨rfl, rfl, rfl, by decide +kernel, rfl, by decide +kernel, by decide +kernel⟩
theorem ok_added (hw : cl.w = w) (T : Txt K mg) {k : Nat} {F_fraction : Fn} {k_fraction : Nat} (G_fraction : DefOk P w K mg base cl "fraction" k_fraction 2 F_fraction) (l_fraction : k_fraction ≤ k) : DefOk P w K mg base cl "added" (k + 1) 2 (fnB 2 (m_added F_fraction)) := by
  obtain ⟨fd, Fd⟩ := T.d.def_ 4 (d := d_added) rfl
  have sc := sc_added
  refine okD (N := ["one", "two"]) (ps := ["one", "two"]) Fd sc (T.g _ (T.d.fact 4 (f := .glo "added") rfl)) (fun _ _ _ _ _ _ us hl => match us, hl with | [_, _], _ => rfl) fun cdv A outer s H E hr tk ow => ?_
  exact (pds_one (pds_ret (pd_call G_fraction hr tk (pda_cons (pd_op od_add (pd_op od_mul (pd_ix (room100 hr) hw (pd_v 0) pd_int) (pd_ix (room100 hr) hw (pd_v 1) pd_int)) (pd_op od_mul (pd_ix (room100 hr) hw (pd_v 1) pd_int) (pd_ix (room100 hr) hw (pd_v 0) pd_int))) (pda_cons (pd_op od_mul (pd_ix (room100 hr) hw (pd_v 0) pd_int) (pd_ix (room100 hr) hw (pd_v 1) pd_int)) pda_nil)))))
noncomputable def F_added : Fn := fnB 2 (m_added F_fraction)
theorem G_added (hw : cl.w = w) (T : Txt K mg) : DefOk P w K mg base cl "added" 3 2 F_added := ok_added hw T (k := 2) (G_fraction hw T) (by decide)
def m_less (F_added : Fn) : XS :=
  sRet (eB F_added [eV 0, eTup [e1 negD (e2 ixD (eV 1) (eC (.int 0))), e2 ixD (eV 1) (eC (.int 1))]])
theorem sc_less : FnScope ["one", "two"] ["one", "two"] (defScope s_less) := ⟨rfl, rfl, rfl, by decide +kernel, rfl, by decide +kernel, by decide +kernel⟩
theorem ok_less (hw : cl.w = w) (T : Txt K mg) {k : Nat} {F_added : Fn} {k_added : Nat} (G_added : DefOk P w K mg base cl "added" k_added 2 F_added) (l_added : k_added ≤ k) : DefOk P w K mg base cl "less" (k + 1) 2 (fnB 2 (m_less F_added)) := by
  obtain ⟨fd, Fd⟩ := T.d.def_ 5 (d := d_less) rfl
  have sc := sc_less
  refine okD (N := ["one", "two"]) (ps := ["one", "two"]) Fd sc (T.g _ (T.d.fact 5 (f := .glo "less") rfl)) (fun _ _ _ _ _ _ us hl => match us, hl with | [_, _], _ => rfl) fun cdv A outer s H E hr tk ow => ?_
  exact (pds_one (pds_ret (pd_call G_added hr tk (pda_cons (pd_v 0) (pda_cons (pd_tup (pda_cons (pd_neg (pd_ix (room100 hr) hw (pd_v 1) pd_int)) (pda_cons (pd_ix (room100 hr) hw (pd_v 1) pd_int) pda_nil))) pda_nil)))))
noncomputable def F_less : Fn := fnB 2 (m_less F_added)
theorem G_less (hw : cl.w = w) (T : Txt K mg) : DefOk P w K mg base cl "less" 4 2 F_less := ok_less hw T (k := 3) (G_added hw T) (by decide)
def m_is_below : XS :=
  sRet (e2 ltD (e2 mulD (e2 ixD (eV 0) (eC (.int 0))) (e2 ixD (eV 1) (eC (.int 1)))) (e2 mulD (e2 ixD (eV 1) (eC (.int 0))) (e2 ixD (eV 0) (eC (.int 1)))))
theorem sc_is_below : FnScope ["one", "two"] ["one", "two"] (defScope s_is_below) := ⟨rfl, rfl, rfl, by decide +kernel, rfl, by decide +kernel, by decide +kernel⟩
theorem ok_is_below (hw : cl.w = w) (T : Txt K mg) {k : Nat} : DefOk P w K mg base cl "is_below" (k + 1) 2 (fnB 2 (m_is_below)) := by
  obtain ⟨fd, Fd⟩ := T.d.def_ 6 (d := d_is_below) rfl
  have sc := sc_is_below
  refine okD (N := ["one", "two"]) (ps := ["one", "two"]) Fd sc (T.g _ (T.d.fact 6 (f := .glo "is_below") rfl)) (fun _ _ _ _ _ _ us hl => match us, hl with | [_, _], _ => rfl) fun cdv A outer s H E hr tk ow => ?_
  exact (pds_one (pds_ret (pd_cmp od_lt (pd_op od_mul (pd_ix (room100 hr) hw (pd_v 0) pd_int) (pd_ix (room100 hr) hw (pd_v 1) pd_int)) (pd_op od_mul (pd_ix (room100 hr) hw (pd_v 1) pd_int) (pd_ix (room100 hr) hw (pd_v 0) pd_int)) (nomark _))))
noncomputable def F_is_below : Fn := fnB 2 (m_is_below)
theorem G_is_below (hw : cl.w = w) (T : Txt K mg) : DefOk P w K mg base cl "is_below" 1 2 F_is_below := ok_is_below hw T (k := 0)
def m_lesser (F_is_below : Fn) : XS :=
  sRet (eIf (tV (eB F_is_below [eV 1, eV 0])) (eV 1) (eV 0))
theorem sc_lesser : FnScope ["one", "two"] ["one", "two"] (defScope s_lesser) := ⟨rfl, rfl, rfl, by decide +kernel, rfl, by decide +kernel, by decide +kernel⟩
theorem ok_lesser (hw : cl.w = w) (T : Txt K mg) {k : Nat} {F_is_below : Fn} {k_is_below : Nat} (G_is_below : DefOk P w K mg base cl "is_below" k_is_below 2 F_is_below) (l_is_below : k_is_below ≤ k) : DefOk P w K mg base cl "lesser" (k + 1) 2 (fnB 2 (m_lesser F_is_below)) := by
  obtain ⟨fd, Fd⟩ := T.d.def_ 7 (d := d_lesser) rfl
  have sc := sc_lesser
  refine okD (N := ["one", "two"]) (ps := ["one", "two"]) Fd sc (T.g _ (T.d.fact 7 (f := .glo "lesser") rfl)) (fun _ _ _ _ _ _ us hl => match us, hl with | [_, _], _ => rfl) fun cdv A outer s H E hr tk ow => ?_
  exact (pds_one (pds_ret (pd_if (pdt_val (pd_call G_is_below hr tk (pda_cons (pd_v 1) (pda_cons (pd_v 0) pda_nil)))) (pd_v 1) (pd_v 0))))
noncomputable def F_lesser : Fn := fnB 2 (m_lesser F_is_below)
theorem G_lesser (hw : cl.w = w) (T : Txt K mg) : DefOk P w K mg base cl "lesser" 2 2 F_lesser := ok_lesser hw T (k := 1) (G_is_below hw T) (by decide)
def m_greater (F_is_below : Fn) : XS :=
  sRet (eIf (tV (eB F_is_below [eV 0, eV 1])) (eV 1) (eV 0))
theorem sc_greater : FnScope ["one", "two"] ["one", "two"] (defScope s_greater) := ⟨rfl, rfl, rfl, by decide +kernel, rfl, by decide +kernel, by decide +kernel⟩
theorem ok_greater (hw : cl.w = w) (T : Txt K mg) {k : Nat} {F_is_below : Fn} {k_is_below : Nat} (G_is_below : DefOk P w K mg base cl "is_below" k_is_below 2 F_is_below) (l_is_below : k_is_below ≤ k) : DefOk P w K mg base cl "greater" (k + 1) 2 (fnB 2 (m_greater F_is_below)) := by
  obtain ⟨fd, Fd⟩ := T.d.def_ 8 (d := d_greater) rfl
  have sc := sc_greater
  refine okD (N := ["one", "two"]) (ps := ["one", "two"]) Fd sc (T.g _ (T.d.fact 8 (f := .glo "greater") rfl)) (fun _ _ _ _ _ _ us hl => match us, hl with | [_, _], _ => rfl) fun cdv A outer s H E hr tk ow => ?_
  exact (pds_one (pds_ret (pd_if (pdt_val (pd_call G_is_below hr tk (pda_cons (pd_v 0) (pda_cons (pd_v 1) pda_nil)))) (pd_v 1) (pd_v 0))))
noncomputable def F_greater : Fn := fnB 2 (m_greater F_is_below)
theorem G_greater (hw : cl.w = w) (T : Txt K mg) : DefOk P w K mg base cl "greater" 2 2 F_greater := ok_greater hw T (k := 1) (G_is_below hw T) (by decide)
def m_is_degree (F_is_fraction : Fn) : XS :=
  sRet (eAn (eB F_is_fraction [eV 0]) (eCh leD leD (eC (.int 0)) (e2 ixD (eV 0) (eC (.int 0))) (e2 ixD (eV 0) (eC (.int 1)))))
theorem sc_is_degree : FnScope ["value"] ["value"] (defScope s_is_degree) := ⟨rfl, rfl, rfl, by decide +kernel, rfl, by decide +kernel, by decide +kernel⟩
theorem ok_is_degree (hw : cl.w = w) (T : Txt K mg) {k : Nat} {F_is_fraction : Fn} {k_is_fraction : Nat} (G_is_fraction : DefOk P w K mg base cl "is_fraction" k_is_fraction 1 F_is_fraction) (l_is_fraction : k_is_fraction ≤ k) : DefOk P w K mg base cl "is_degree" (k + 1) 1 (fnB 1 (m_is_degree F_is_fraction)) := by
  obtain ⟨fd, Fd⟩ := T.d.def_ 9 (d := d_is_degree) rfl
  have sc := sc_is_degree
  refine okD (N := ["value"]) (ps := ["value"]) Fd sc (T.g _ (T.d.fact 9 (f := .glo "is_degree") rfl)) (fun _ _ _ _ _ _ us hl => match us, hl with | [_], _ => rfl) fun cdv A outer s H E hr tk ow => ?_
  exact (pds_one (pds_ret (pd_and (pd_call G_is_fraction hr tk (pda_cons (pd_v 0) pda_nil)) (pd_one (pd_chain od_le od_le pd_int (pd_ix (room100 hr) hw (pd_v 0) pd_int) (pd_ix (room100 hr) hw (pd_v 0) pd_int))))))
noncomputable def F_is_degree : Fn := fnB 1 (m_is_degree F_is_fraction)
theorem G_is_degree (hw : cl.w = w) (T : Txt K mg) : DefOk P w K mg base cl "is_degree" 3 1 F_is_degree := ok_is_degree hw T (k := 2) (G_is_fraction hw T) (by decide)
noncomputable def m_is_word : XS :=
  sSeq (sIf (tOrr (tNo (tV (e1 (isiD .str) (eV 0)))) (tV (e2 memD (eV 0) (eC c_TAKEN)))) (sRet (eC (.bl false))) (sNext)) (sRet (eAn (eCh leD leD (eC (.int 1)) (eB lenD [eV 0]) (eC c_MOST_LETTERS)) (eB allD [eLc (iS (eV 0)) (.one 1) (tAll) (e2 memD (eV 1) (eC c_LETTERS)) [1]])))
theorem sc_is_word : FnScope ["value", "letter"] ["value"] (defScope s_is_word) := ⟨rfl, rfl, rfl, by decide +kernel, rfl, by decide +kernel, by decide +kernel⟩
theorem ok_is_word (hw : cl.w = w) (T : Txt K mg) {k : Nat} : DefOk P w K mg base cl "is_word" (k + 1) 1 (fnB 2 (m_is_word)) := by
  obtain ⟨fd, Fd⟩ := T.d.def_ 10 (d := d_is_word) rfl
  have sc := sc_is_word
  have b_isinstance : mg "isinstance" = none := T.f _ (T.d.fact 48 (f := .free "isinstance") rfl)
  have b_str : mg "str" = none := T.f _ (T.d.fact 56 (f := .free "str") rfl)
  have b_len : mg "len" = none := T.f _ (T.d.fact 49 (f := .free "len") rfl)
  have b_all : mg "all" = none := T.f _ (T.d.fact 44 (f := .free "all") rfl)
  refine okD (N := ["value", "letter"]) (ps := ["value"]) Fd sc (T.g _ (T.d.fact 10 (f := .glo "is_word") rfl)) (fun _ _ _ _ _ _ us hl => match us, hl with | [_], _ => rfl) fun cdv A outer s H E hr tk ow => ?_
  exact (pds_cons (pds_if (pdt_bool (pdw_or (pdt_not (pdt_val (pd_isi .str (by rfl) b_isinstance (by rfl) b_str boot_isinstance (by decide +kernel) (pd_v 0)))) (pdw_or1 (pdt_cmp (od_in (room100 hr) hw) (pd_v 0) (k_TAKEN T rfl rfl rfl) (by rfl))))) (pds_one (pds_ret pd_bl)) pds_nil) (pds_one (pds_ret (pd_and (pd_chain od_le od_le pd_int (pd_B cd_len (by rfl) b_len boot_len (pda_cons (pd_v 0) pda_nil)) (k_MOST_LETTERS T rfl rfl rfl)) (pd_one (pd_B (cd_all rfl) (by rfl) b_all boot_all (pda_cons (pd_lc (own := [("letter", 1)]) (g := .one 1) rfl sc.nd (pdi_seq (pd_v 0)) (by kernel_rfl) (fun _ _ _ _ _ => (pg_name (i := 1) sc.nd rfl (Or.inl rfl))) (fun _ _ _ _ _ => pts_all) (fun _ _ _ _ _ => (pd_cmp (od_in (room100 hr) hw) (pd_v 1) (k_LETTERS T rfl rfl rfl) (by rfl)))) pda_nil)))))))
noncomputable def F_is_word : Fn := fnB 2 (m_is_word)
theorem G_is_word (hw : cl.w = w) (T : Txt K mg) : DefOk P w K mg base cl "is_word" 1 1 F_is_word := ok_is_word hw T (k := 0)
def m_parts_below : XS :=
  sRet (eIf (tV (e2 memD (e2 ixD (eV 0) (eC (.int 0))) (eTup [eC (.str "all"), eC (.str "none"), eC (.str "name")]))) (eTup []) (eSl (eV 0) (pSo (eC (.int 1))) (pNo)))
theorem sc_parts_below : FnScope ["formula"] ["formula"] (defScope s_parts_below) := ⟨rfl, rfl, rfl, by decide +kernel, rfl, by decide +kernel, by decide +kernel⟩
theorem ok_parts_below (hw : cl.w = w) (T : Txt K mg) {k : Nat} : DefOk P w K mg base cl "parts_below" (k + 1) 1 (fnB 1 (m_parts_below)) := by
  obtain ⟨fd, Fd⟩ := T.d.def_ 11 (d := d_parts_below) rfl
  have sc := sc_parts_below
  refine okD (N := ["formula"]) (ps := ["formula"]) Fd sc (T.g _ (T.d.fact 11 (f := .glo "parts_below") rfl)) (fun _ _ _ _ _ _ us hl => match us, hl with | [_], _ => rfl) fun cdv A outer s H E hr tk ow => ?_
  exact (pds_one (pds_ret (pd_if (pdt_cmp (od_in (room100 hr) hw) (pd_ix (room100 hr) hw (pd_v 0) pd_int) (pd_tup (pda_cons pd_str (pda_cons pd_str (pda_cons pd_str pda_nil)))) (by rfl)) (pd_tup pda_nil) (pd_sl (pd_v 0) (po_so pd_int) po_no))))
noncomputable def F_parts_below : Fn := fnB 1 (m_parts_below)
theorem G_parts_below (hw : cl.w = w) (T : Txt K mg) : DefOk P w K mg base cl "parts_below" 1 1 F_parts_below := ok_parts_below hw T (k := 0)
noncomputable def m_parts_of (F_parts_below : Fn) : XS :=
  sSeq (sAsg (eTup [newDF, eLstM [eV 0]]) (gT [gN 1, gN 2])) (sSeq (sWh (tV (e2 gtD (eB lenD [eV 2]) (eC (.int 0)))) (sSeq (sAsg (eLc (iS (eB F_parts_below [e2 ixD (eV 2) (e1 negD (eC (.int 1)))])) (.one 4) (tV (e2 nmemD (eV 4) (eV 1))) (eV 4) [4]) (gN 3)) (sIf (tV (e2 gtD (eB lenD [eV 3]) (eC (.int 0)))) (sExpr (eM isObL appL (eV 2) [e2 ixD (eV 3) (eC (.int 0))])) (sAsg (eC (.bl true)) (gS (eV 1) (eM isObL popL (eV 2) [])))))) (sRet (eB listD [eV 1])))
theorem sc_parts_of : FnScope ["formula", "found", "stack", "lacking", "part"] ["formula"] (defScope s_parts_of) := ⟨rfl, rfl, rfl, by decide +kernel, rfl, by decide +kernel, by decide +kernel⟩
theorem ok_parts_of (hw : cl.w = w) (T : Txt K mg) {k : Nat} {F_parts_below : Fn} {k_parts_below : Nat} (G_parts_below : DefOk P w K mg base cl "parts_below" k_parts_below 1 F_parts_below) (l_parts_below : k_parts_below ≤ k) : DefOk P w K mg base cl "parts_of" (k + 1) 1 (fnB 5 (m_parts_of F_parts_below)) := by
  obtain ⟨fd, Fd⟩ := T.d.def_ 12 (d := d_parts_of) rfl
  have sc := sc_parts_of
  have b_len : mg "len" = none := T.f _ (T.d.fact 49 (f := .free "len") rfl)
  have b_list : mg "list" = none := T.f _ (T.d.fact 50 (f := .free "list") rfl)
  refine okD (N := ["formula", "found", "stack", "lacking", "part"]) (ps := ["formula"]) Fd sc (T.g _ (T.d.fact 12 (f := .glo "parts_of") rfl)) (fun _ _ _ _ _ _ us hl => match us, hl with | [_], _ => rfl) fun cdv A outer s H E hr tk ow => ?_
  exact (pds_cons (pds_asg (pd_tup (pda_cons (pd_newDF hw) (pda_cons (pd_lstM (pda_cons (pd_v 0) pda_nil)) pda_nil))) (pdg_tup rfl (pdgs_cons (pdg_name 1 sc.nd) (pdgs_cons (pdg_name 2 sc.nd) pdgs_nil)))) (pds_cons (pds_while ow (pdt_cmp od_gt (pd_B cd_len (by rfl) b_len boot_len (pda_cons (pd_v 2) pda_nil)) pd_int (nomark _)) (pds_cons (pds_setLc 3 (own := [("part", 4)]) (g := .one 4) rfl sc.nd (pdi_seq (pd_call G_parts_below hr tk (pda_cons (pd_ix (room100 hr) hw (pd_v 2) (pd_neg pd_int)) pda_nil))) (by kernel_rfl) (fun _ _ _ _ _ => (pg_name (i := 4) sc.nd rfl (Or.inl rfl))) (fun _ _ _ _ _ => (pts_one (pdt_cmp (od_notin (room100 hr) hw) (pd_v 4) (pd_v 1) (by rfl)))) (fun _ _ _ _ _ => (pd_v 4))) (pds_one (pds_if (pdt_cmp od_gt (pd_B cd_len (by rfl) b_len boot_len (pda_cons (pd_v 3) pda_nil)) pd_int (nomark _)) (pds_one (pds_expr (pd_bm mk_app (pe_bm PySem.F.plainAttrs_list PySem.F.slot_list_append PySem.F.type_list_append mt_append (pd_v 2) (pda_cons (pd_ix (room100 hr) hw (pd_v 3) pd_int) pda_nil))))) (pds_one (pds_asg pd_bl (pdg_sub (room100 hr) hw (pd_v 1) (pd_bm0 mk_pop (pe_bm0 PySem.F.plainAttrs_list PySem.F.slot_list_pop PySem.F.type_list_pop mt_pop (pd_v 2)))))))))) (pds_one (pds_ret (pd_Ty (cd_list rfl hw) (by rfl) b_list boot_list (pda_cons (pd_v 1) pda_nil))))))
noncomputable def F_parts_of : Fn := truncF (fnB 5 (m_parts_of F_parts_below))
theorem G_parts_of (hw : cl.w = w) (T : Txt K mg) : DefOk P w K mg base cl "parts_of" 2 1 F_parts_of := DefOk.trunc (ok_parts_of hw T (k := 1) (G_parts_below hw T) (by decide))
noncomputable def m_is_valuation (F_is_word : Fn) (F_is_degree : Fn) : XS :=
  sSeq (sIf (tOrr (tNo (tV (e1 (isiD .tuple) (eV 0)))) (tNo (tV (eB allD [eLc (iS (eV 0)) (.one 1) (tAll) (eAn (e1 (isiD .tuple) (eV 1)) (e2 eqD (eB lenD [eV 1]) (eC (.int 2)))) [1]])))) (sRet (eC (.bl false))) (sNext)) (sSeq (sIf (tNo (tV (eB allD [eLc (iS (eV 0)) (.one 1) (tAll) (eAn (eB F_is_word [e2 ixD (eV 1) (eC (.int 0))]) (eB F_is_degree [e2 ixD (eV 1) (eC (.int 1))])) [1]]))) (sRet (eC (.bl false))) (sNext)) (sRet (eB allD [eLc (iR [e2 subD (eB lenD [eV 0]) (eC (.int 1))]) (.one 2) (tAll) (e2 ltD (e2 ixD (e2 ixD (eV 0) (eV 2)) (eC (.int 0))) (e2 ixD (e2 ixD (eV 0) (e2 addD (eV 2) (eC (.int 1)))) (eC (.int 0)))) [2]])))
theorem sc_is_valuation : FnScope ["value", "pair", "k"] ["value"] (defScope s_is_valuation) := ⟨rfl, rfl, rfl, by decide +kernel, rfl, by decide +kernel, by decide +kernel⟩
theorem ok_is_valuation (hw : cl.w = w) (T : Txt K mg) {k : Nat} {F_is_word : Fn} {k_is_word : Nat} (G_is_word : DefOk P w K mg base cl "is_word" k_is_word 1 F_is_word) {F_is_degree : Fn} {k_is_degree : Nat} (G_is_degree : DefOk P w K mg base cl "is_degree" k_is_degree 1 F_is_degree) (l_is_word : k_is_word ≤ k) (l_is_degree : k_is_degree ≤ k) : DefOk P w K mg base cl "is_valuation" (k + 1) 1 (fnB 3 (m_is_valuation F_is_word F_is_degree)) := by
  obtain ⟨fd, Fd⟩ := T.d.def_ 13 (d := d_is_valuation) rfl
  have sc := sc_is_valuation
  have b_isinstance : mg "isinstance" = none := T.f _ (T.d.fact 48 (f := .free "isinstance") rfl)
  have b_tuple : mg "tuple" = none := T.f _ (T.d.fact 57 (f := .free "tuple") rfl)
  have b_len : mg "len" = none := T.f _ (T.d.fact 49 (f := .free "len") rfl)
  have b_all : mg "all" = none := T.f _ (T.d.fact 44 (f := .free "all") rfl)
  have b_range : mg "range" = none := T.f _ (T.d.fact 53 (f := .free "range") rfl)
  refine okD (N := ["value", "pair", "k"]) (ps := ["value"]) Fd sc (T.g _ (T.d.fact 13 (f := .glo "is_valuation") rfl)) (fun _ _ _ _ _ _ us hl => match us, hl with | [_], _ => rfl) fun cdv A outer s H E hr tk ow => ?_
  exact (pds_cons (pds_if (pdt_bool (pdw_or (pdt_not (pdt_val (pd_isi .tuple (by rfl) b_isinstance (by rfl) b_tuple boot_isinstance (by decide +kernel) (pd_v 0)))) (pdw_or1 (pdt_not (pdt_val (pd_B (cd_all rfl) (by rfl) b_all boot_all (pda_cons (pd_lc (own := [("pair", 1)]) (g := .one 1) rfl sc.nd (pdi_seq (pd_v 0)) (by kernel_rfl) (fun _ _ _ _ _ => (pg_name (i := 1) sc.nd rfl (Or.inl rfl))) (fun _ _ _ _ _ => pts_all) (fun _ _ _ _ _ => (pd_and (pd_isi .tuple (by rfl) b_isinstance (by rfl) b_tuple boot_isinstance (by decide +kernel) (pd_v 1)) (pd_one (pd_cmp (od_eq hr.units) (pd_B cd_len (by rfl) b_len boot_len (pda_cons (pd_v 1) pda_nil)) pd_int (nomark _)))))) pda_nil))))))) (pds_one (pds_ret pd_bl)) pds_nil) (pds_cons (pds_if (pdt_not (pdt_val (pd_B (cd_all rfl) (by rfl) b_all boot_all (pda_cons (pd_lc (own := [("pair", 1)]) (g := .one 1) rfl sc.nd (pdi_seq (pd_v 0)) (by kernel_rfl) (fun _ _ _ _ _ => (pg_name (i := 1) sc.nd rfl (Or.inl rfl))) (fun _ _ _ _ _ => pts_all) (fun _ _ _ _ _ => (pd_and (pd_call G_is_word hr takes0 (pda_cons (pd_ix (room100 hr) hw (pd_v 1) pd_int) pda_nil)) (pd_one (pd_call G_is_degree hr takes0 (pda_cons (pd_ix (room100 hr) hw (pd_v 1) pd_int) pda_nil)))))) pda_nil)))) (pds_one (pds_ret pd_bl)) pds_nil) (pds_one (pds_ret (pd_B (cd_all rfl) (by rfl) b_all boot_all (pda_cons (pd_lc (own := [("k", 2)]) (g := .one 2) rfl sc.nd (pdi_rng1 (by rfl) b_range (pd_op od_sub (pd_B cd_len (by rfl) b_len boot_len (pda_cons (pd_v 0) pda_nil)) pd_int)) (by kernel_rfl) (fun _ _ _ _ _ => (pg_name (i := 2) sc.nd rfl (Or.inl rfl))) (fun _ _ _ _ _ => pts_all) (fun _ _ _ _ _ => (pd_cmp od_lt (pd_ix (room100 hr) hw (pd_ix (room100 hr) hw (pd_v 0) (pd_v 2)) pd_int) (pd_ix (room100 hr) hw (pd_ix (room100 hr) hw (pd_v 0) (pd_op od_add (pd_v 2) pd_int)) pd_int) (nomark _)))) pda_nil))))))
noncomputable def F_is_valuation : Fn := fnB 3 (m_is_valuation F_is_word F_is_degree)
theorem G_is_valuation (hw : cl.w = w) (T : Txt K mg) : DefOk P w K mg base cl "is_valuation" 4 1 F_is_valuation := ok_is_valuation hw T (k := 3) (G_is_word hw T) (G_is_degree hw T) (by decide) (by decide)
def m_put_together (F_lesser : Fn) (F_added : Fn) (F_greater : Fn) (F_less : Fn) : XS :=
  sSeq (sIf (tV (e2 eqD (eV 0) (eC (.str "plus")))) (sRet (eB F_lesser [eC c_ONE, eB F_added [eV 1, eV 2]])) (sNext)) (sSeq (sIf (tV (e2 eqD (eV 0) (eC (.str "times")))) (sRet (eB F_greater [eC c_ZERO, eB F_less [eB F_added [eV 1, eV 2], eC c_ONE]])) (sNext)) (sSeq (sIf (tV (e2 eqD (eV 0) (eC (.str "meet")))) (sRet (eB F_lesser [eV 1, eV 2])) (sNext)) (sRet (eIf (tV (e2 eqD (eV 0) (eC (.str "join")))) (eB F_greater [eV 1, eV 2]) (eB F_lesser [eC c_ONE, eB F_added [eB F_less [eC c_ONE, eV 1], eV 2]])))))
theorem sc_put_together : FnScope ["word", "one", "two"] ["word", "one", "two"] (defScope s_put_together) := ⟨rfl, rfl, rfl, by decide +kernel, rfl, by decide +kernel, by decide +kernel⟩
theorem ok_put_together (hw : cl.w = w) (T : Txt K mg) {k : Nat} {F_lesser : Fn} {k_lesser : Nat} (G_lesser : DefOk P w K mg base cl "lesser" k_lesser 2 F_lesser) {F_added : Fn} {k_added : Nat} (G_added : DefOk P w K mg base cl "added" k_added 2 F_added) {F_greater : Fn} {k_greater : Nat} (G_greater : DefOk P w K mg base cl "greater" k_greater 2 F_greater) {F_less : Fn} {k_less : Nat} (G_less : DefOk P w K mg base cl "less" k_less 2 F_less) (l_lesser : k_lesser ≤ k) (l_added : k_added ≤ k) (l_greater : k_greater ≤ k) (l_less : k_less ≤ k) : DefOk P w K mg base cl "put_together" (k + 1) 3 (fnB 3 (m_put_together F_lesser F_added F_greater F_less)) := by
  obtain ⟨fd, Fd⟩ := T.d.def_ 14 (d := d_put_together) rfl
  have sc := sc_put_together
  refine okD (N := ["word", "one", "two"]) (ps := ["word", "one", "two"]) Fd sc (T.g _ (T.d.fact 14 (f := .glo "put_together") rfl)) (fun _ _ _ _ _ _ us hl => match us, hl with | [_, _, _], _ => rfl) fun cdv A outer s H E hr tk ow => ?_
  exact (pds_cons (pds_if (pdt_cmp (od_eq hr.units) (pd_v 0) pd_str (nomark _)) (pds_one (pds_ret (pd_call G_lesser hr tk (pda_cons (k_ONE T rfl rfl rfl) (pda_cons (pd_call G_added hr tk (pda_cons (pd_v 1) (pda_cons (pd_v 2) pda_nil))) pda_nil))))) pds_nil) (pds_cons (pds_if (pdt_cmp (od_eq hr.units) (pd_v 0) pd_str (nomark _)) (pds_one (pds_ret (pd_call G_greater hr tk (pda_cons (k_ZERO T rfl rfl rfl) (pda_cons (pd_call G_less hr tk (pda_cons (pd_call G_added hr tk (pda_cons (pd_v 1) (pda_cons (pd_v 2) pda_nil))) (pda_cons (k_ONE T rfl rfl rfl) pda_nil))) pda_nil))))) pds_nil) (pds_cons (pds_if (pdt_cmp (od_eq hr.units) (pd_v 0) pd_str (nomark _)) (pds_one (pds_ret (pd_call G_lesser hr tk (pda_cons (pd_v 1) (pda_cons (pd_v 2) pda_nil))))) pds_nil) (pds_one (pds_ret (pd_if (pdt_cmp (od_eq hr.units) (pd_v 0) pd_str (nomark _)) (pd_call G_greater hr tk (pda_cons (pd_v 1) (pda_cons (pd_v 2) pda_nil))) (pd_call G_lesser hr tk (pda_cons (k_ONE T rfl rfl rfl) (pda_cons (pd_call G_added hr tk (pda_cons (pd_call G_less hr tk (pda_cons (k_ONE T rfl rfl rfl) (pda_cons (pd_v 1) pda_nil))) (pda_cons (pd_v 2) pda_nil))) pda_nil)))))))))
noncomputable def F_put_together : Fn := fnB 3 (m_put_together F_lesser F_added F_greater F_less)
theorem G_put_together (hw : cl.w = w) (T : Txt K mg) : DefOk P w K mg base cl "put_together" 5 3 F_put_together := ok_put_together hw T (k := 4) (G_lesser hw T) (G_added hw T) (G_greater hw T) (G_less hw T) (by decide) (by decide) (by decide) (by decide)
noncomputable def m_degree_of (F_parts_of : Fn) (F_less : Fn) (F_put_together : Fn) : XS :=
  sSeq (sAsg (eB dictD [eV 0]) (gN 2)) (sSeq (sAsg (newDF) (gN 3)) (sSeq (sFor (iS (eB F_parts_of [eV 1])) (gN 4) (sSeq (sAsg (e2 ixD (eV 4) (eC (.int 0))) (gN 5)) (sIf (tV (e2 memD (eV 5) (eTup [eC (.str "all"), eC (.str "none")]))) (sAsg (eIf (tV (e2 eqD (eV 5) (eC (.str "all")))) (eC c_ONE) (eC c_ZERO)) (gS (eV 3) (eV 4))) (sIf (tV (e2 eqD (eV 5) (eC (.str "name")))) (sAsg (e2 ixD (eV 2) (e2 ixD (eV 4) (eC (.int 1)))) (gS (eV 3) (eV 4))) (sIf (tV (e2 eqD (eV 5) (eC (.str "not")))) (sAsg (eB F_less [eC c_ONE, e2 ixD (eV 3) (e2 ixD (eV 4) (eC (.int 1)))]) (gS (eV 3) (eV 4))) (sAsg (eB F_put_together [eV 5, e2 ixD (eV 3) (e2 ixD (eV 4) (eC (.int 1))), e2 ixD (eV 3) (e2 ixD (eV 4) (eC (.int 2)))]) (gS (eV 3) (eV 4)))))))) (sRet (e2 ixD (eV 3) (eV 1)))))
theorem sc_degree_of : FnScope ["valuation", "formula", "known", "found", "part", "word"] ["valuation", "formula"] (defScope s_degree_of) := ⟨rfl, rfl, rfl, by decide +kernel, rfl, by decide +kernel, by decide +kernel⟩
theorem ok_degree_of (hw : cl.w = w) (T : Txt K mg) {k : Nat} {F_parts_of : Fn} {k_parts_of : Nat} (G_parts_of : DefOk P w K mg base cl "parts_of" k_parts_of 1 F_parts_of) {F_less : Fn} {k_less : Nat} (G_less : DefOk P w K mg base cl "less" k_less 2 F_less) {F_put_together : Fn} {k_put_together : Nat} (G_put_together : DefOk P w K mg base cl "put_together" k_put_together 3 F_put_together) (l_parts_of : k_parts_of ≤ k) (l_less : k_less ≤ k) (l_put_together : k_put_together ≤ k) : DefOk P w K mg base cl "degree_of" (k + 1) 2 (fnB 6 (m_degree_of F_parts_of F_less F_put_together)) := by
  obtain ⟨fd, Fd⟩ := T.d.def_ 15 (d := d_degree_of) rfl
  have sc := sc_degree_of
  have b_dict : mg "dict" = none := T.f _ (T.d.fact 46 (f := .free "dict") rfl)
  refine okD (N := ["valuation", "formula", "known", "found", "part", "word"]) (ps := ["valuation", "formula"]) Fd sc (T.g _ (T.d.fact 15 (f := .glo "degree_of") rfl)) (fun _ _ _ _ _ _ us hl => match us, hl with | [_, _], _ => rfl) fun cdv A outer s H E hr tk ow => ?_
  exact (pds_cons (pds_set 2 sc.nd (pd_Ty (cd_dict rfl) (by rfl) b_dict boot_dict (pda_cons (pd_v 0) pda_nil))) (pds_cons (pds_set 3 sc.nd (pd_newDF hw)) (pds_cons (pds_for ow rfl (pdi_seq (pd_call G_parts_of hr tk (pda_cons (pd_v 1) pda_nil))) (pdg_name 4 sc.nd) (pds_cons (pds_set 5 sc.nd (pd_ix (room100 hr) hw (pd_v 4) pd_int)) (pds_one (pds_if (pdt_cmp (od_in (room100 hr) hw) (pd_v 5) (pd_tup (pda_cons pd_str (pda_cons pd_str pda_nil))) (by rfl)) (pds_one (pds_asg (pd_if (pdt_cmp (od_eq hr.units) (pd_v 5) pd_str (nomark _)) (k_ONE T rfl rfl rfl) (k_ZERO T rfl rfl rfl)) (pdg_sub (room100 hr) hw (pd_v 3) (pd_v 4)))) (pds_one (pds_if (pdt_cmp (od_eq hr.units) (pd_v 5) pd_str (nomark _)) (pds_one (pds_asg (pd_ix (room100 hr) hw (pd_v 2) (pd_ix (room100 hr) hw (pd_v 4) pd_int)) (pdg_sub (room100 hr) hw (pd_v 3) (pd_v 4)))) (pds_one (pds_if (pdt_cmp (od_eq hr.units) (pd_v 5) pd_str (nomark _)) (pds_one (pds_asg (pd_call G_less hr tk (pda_cons (k_ONE T rfl rfl rfl) (pda_cons (pd_ix (room100 hr) hw (pd_v 3) (pd_ix (room100 hr) hw (pd_v 4) pd_int)) pda_nil))) (pdg_sub (room100 hr) hw (pd_v 3) (pd_v 4)))) (pds_one (pds_asg (pd_call G_put_together hr tk (pda_cons (pd_v 5) (pda_cons (pd_ix (room100 hr) hw (pd_v 3) (pd_ix (room100 hr) hw (pd_v 4) pd_int)) (pda_cons (pd_ix (room100 hr) hw (pd_v 3) (pd_ix (room100 hr) hw (pd_v 4) pd_int)) pda_nil)))) (pdg_sub (room100 hr) hw (pd_v 3) (pd_v 4)))))))))))) (pds_one (pds_ret (pd_ix (room100 hr) hw (pd_v 3) (pd_v 1)))))))
noncomputable def F_degree_of : Fn := truncF (fnB 6 (m_degree_of F_parts_of F_less F_put_together))
theorem G_degree_of (hw : cl.w = w) (T : Txt K mg) : DefOk P w K mg base cl "degree_of" 6 2 F_degree_of := DefOk.trunc (ok_degree_of hw T (k := 5) (G_parts_of hw T) (G_less hw T) (G_put_together hw T) (by decide) (by decide) (by decide))
noncomputable def m_is_full (F_degree_of : Fn) : XS :=
  sRet (eB allD [eLc (iS (eV 1)) (.one 2) (tAll) (e2 eqD (eB F_degree_of [eV 0, eV 2]) (eC c_ONE)) [2]])
theorem sc_is_full : FnScope ["valuation", "theory", "formula"] ["valuation", "theory"] (defScope s_is_full) := ⟨rfl, rfl, rfl, by decide +kernel, rfl, by decide +kernel, by decide +kernel⟩
theorem ok_is_full (hw : cl.w = w) (T : Txt K mg) {k : Nat} {F_degree_of : Fn} {k_degree_of : Nat} (G_degree_of : DefOk P w K mg base cl "degree_of" k_degree_of 2 F_degree_of) (l_degree_of : k_degree_of ≤ k) : DefOk P w K mg base cl "is_full" (k + 1) 2 (fnB 3 (m_is_full F_degree_of)) := by
  obtain ⟨fd, Fd⟩ := T.d.def_ 16 (d := d_is_full) rfl
  have sc := sc_is_full
  have b_all : mg "all" = none := T.f _ (T.d.fact 44 (f := .free "all") rfl)
  refine okD (N := ["valuation", "theory", "formula"]) (ps := ["valuation", "theory"]) Fd sc (T.g _ (T.d.fact 16 (f := .glo "is_full") rfl)) (fun _ _ _ _ _ _ us hl => match us, hl with | [_, _], _ => rfl) fun cdv A outer s H E hr tk ow => ?_
  exact (pds_one (pds_ret (pd_B (cd_all rfl) (by rfl) b_all boot_all (pda_cons (pd_lc (own := [("formula", 2)]) (g := .one 2) rfl sc.nd (pdi_seq (pd_v 1)) (by kernel_rfl) (fun _ _ _ _ _ => (pg_name (i := 2) sc.nd rfl (Or.inl rfl))) (fun _ _ _ _ _ => pts_all) (fun _ _ _ _ _ => (pd_cmp (od_eq hr.units) (pd_call G_degree_of hr takes0 (pda_cons (pd_v 0) (pda_cons (pd_v 2) pda_nil))) (k_ONE T rfl rfl rfl) (nomark _)))) pda_nil))))
noncomputable def F_is_full : Fn := fnB 3 (m_is_full F_degree_of)
theorem G_is_full (hw : cl.w = w) (T : Txt K mg) : DefOk P w K mg base cl "is_full" 7 2 F_is_full := ok_is_full hw T (k := 6) (G_degree_of hw T) (by decide)
noncomputable def m__law_pool : XS :=
  sSeq (sAsg (eC (.int 7)) (gN 1)) (sSeq (sFor (iS (eSl (eV 0) (pNo) (pSo (eC (.int 63))))) (gN 2) (sAsg (e2 modD (eB intD [e2 addD (e2 mulD (eV 1) (eC (.int 31))) (eV 2)]) (eC (.int 1000003))) (gN 1))) (sRet (eLstM [eB listD [eV 0], eC (.int 0), eC (.int 0), eC (.int 0), eV 1])))
theorem sc__law_pool : FnScope ["script", "salt", "cell"] ["script"] (defScope s__law_pool) := ⟨rfl, rfl, rfl, by decide +kernel, rfl, by decide +kernel, by decide +kernel⟩
theorem ok__law_pool (hw : cl.w = w) (T : Txt K mg) {k : Nat} : DefOk P w K mg base cl "_law_pool" (k + 1) 1 (fnB 3 (m__law_pool)) := by
  obtain ⟨fd, Fd⟩ := T.d.def_ 17 (d := d__law_pool) rfl
  have sc := sc__law_pool
  have b_int : mg "int" = none := T.f _ (T.d.fact 47 (f := .free "int") rfl)
  have b_list : mg "list" = none := T.f _ (T.d.fact 50 (f := .free "list") rfl)
  refine okD (N := ["script", "salt", "cell"]) (ps := ["script"]) Fd sc (T.g _ (T.d.fact 17 (f := .glo "_law_pool") rfl)) (fun _ _ _ _ _ _ us hl => match us, hl with | [_], _ => rfl) fun cdv A outer s H E hr tk ow => ?_
  exact (pds_cons (pds_set 1 sc.nd pd_int) (pds_cons (pds_for ow rfl (pdi_seq (pd_sl (pd_v 0) po_no (po_so pd_int))) (pdg_name 2 sc.nd) (pds_one (pds_set 1 sc.nd (pd_op od_mod (pd_Ty cd_int (by rfl) b_int boot_int (pda_cons (pd_op od_add (pd_op od_mul (pd_v 1) pd_int) (pd_v 2)) pda_nil)) pd_int)))) (pds_one (pds_ret (pd_lstM (pda_cons (pd_Ty (cd_list rfl hw) (by rfl) b_list boot_list (pda_cons (pd_v 0) pda_nil)) (pda_cons pd_int (pda_cons pd_int (pda_cons pd_int (pda_cons (pd_v 1) pda_nil))))))))))
noncomputable def F__law_pool : Fn := fnB 3 (m__law_pool)
theorem G__law_pool (hw : cl.w = w) (T : Txt K mg) : DefOk P w K mg base cl "_law_pool" 1 1 F__law_pool := ok__law_pool hw T (k := 0)
noncomputable def m__law_common : XS :=
  sSeq (sWh (tV (e2 gtD (eV 1) (eC (.int 0)))) (sPar 0 1 (eV 1) (e2 modD (eB intD [eV 0]) (eV 1)))) (sRet (eV 0))
theorem sc__law_common : FnScope ["one", "two"] ["one", "two"] (defScope s__law_common) := ⟨rfl, rfl, rfl, by decide +kernel, rfl, by decide +kernel, by decide +kernel⟩
theorem ok__law_common (hw : cl.w = w) (T : Txt K mg) {k : Nat} : DefOk P w K mg base cl "_law_common" (k + 1) 2 (fnB 2 (m__law_common)) := by
  obtain ⟨fd, Fd⟩ := T.d.def_ 18 (d := d__law_common) rfl
  have sc := sc__law_common
  have b_int : mg "int" = none := T.f _ (T.d.fact 47 (f := .free "int") rfl)
  refine okD (N := ["one", "two"]) (ps := ["one", "two"]) Fd sc (T.g _ (T.d.fact 18 (f := .glo "_law_common") rfl)) (fun _ _ _ _ _ _ us hl => match us, hl with | [_, _], _ => rfl) fun cdv A outer s H E hr tk ow => ?_
  exact (pds_cons (pds_while ow (pdt_cmp od_gt (pd_v 1) pd_int (nomark _)) (pds_one (pds_par 0 1 rfl sc.nd (pd_v 1) (pd_op od_mod (pd_Ty cd_int (by rfl) b_int boot_int (pda_cons (pd_v 0) pda_nil)) (pd_v 1))))) (pds_one (pds_ret (pd_v 0))))
noncomputable def F__law_common : Fn := fnB 2 (m__law_common)
theorem G__law_common (hw : cl.w = w) (T : Txt K mg) : DefOk P w K mg base cl "_law_common" 1 2 F__law_common := ok__law_common hw T (k := 0)
def m__law_fraction (F__law_common : Fn) : XS :=
  sSeq (sAsg (eB F__law_common [eB absD [eV 0], eB absD [eV 1]]) (gN 2)) (sRet (eIf (tV (e2 gtD (eV 1) (eC (.int 0)))) (eTup [e2 fdivD (eV 0) (eV 2), e2 fdivD (eV 1) (eV 2)]) (eTup [e2 subD (eC (.int 0)) (e2 fdivD (eV 0) (eV 2)), e2 subD (eC (.int 0)) (e2 fdivD (eV 1) (eV 2))])))
theorem sc__law_fraction : FnScope ["over", "under", "shared"] ["over", "under"] (defScope s__law_fraction) := ⟨rfl, rfl, rfl, by decide +kernel, rfl, by decide +kernel, by decide +kernel⟩
theorem ok__law_fraction (hw : cl.w = w) (T : Txt K mg) {k : Nat} {F__law_common : Fn} {k__law_common : Nat} (G__law_common : DefOk P w K mg base cl "_law_common" k__law_common 2 F__law_common) (l__law_common : k__law_common ≤ k) : DefOk P w K mg base cl "_law_fraction" (k + 1) 2 (fnB 3 (m__law_fraction F__law_common)) := by
  obtain ⟨fd, Fd⟩ := T.d.def_ 19 (d := d__law_fraction) rfl
  have sc := sc__law_fraction
  have b_abs : mg "abs" = none := T.f _ (T.d.fact 43 (f := .free "abs") rfl)
  refine okD (N := ["over", "under", "shared"]) (ps := ["over", "under"]) Fd sc (T.g _ (T.d.fact 19 (f := .glo "_law_fraction") rfl)) (fun _ _ _ _ _ _ us hl => match us, hl with | [_, _], _ => rfl) fun cdv A outer s H E hr tk ow => ?_
  exact (pds_cons (pds_set 2 sc.nd (pd_call G__law_common hr tk (pda_cons (pd_B cd_abs (by rfl) b_abs boot_abs (pda_cons (pd_v 0) pda_nil)) (pda_cons (pd_B cd_abs (by rfl) b_abs boot_abs (pda_cons (pd_v 1) pda_nil)) pda_nil)))) (pds_one (pds_ret (pd_if (pdt_cmp od_gt (pd_v 1) pd_int (nomark _)) (pd_tup (pda_cons (pd_op od_fdiv (pd_v 0) (pd_v 2)) (pda_cons (pd_op od_fdiv (pd_v 1) (pd_v 2)) pda_nil))) (pd_tup (pda_cons (pd_op od_sub pd_int (pd_op od_fdiv (pd_v 0) (pd_v 2))) (pda_cons (pd_op od_sub pd_int (pd_op od_fdiv (pd_v 1) (pd_v 2))) pda_nil)))))))
noncomputable def F__law_fraction : Fn := fnB 3 (m__law_fraction F__law_common)
theorem G__law_fraction (hw : cl.w = w) (T : Txt K mg) : DefOk P w K mg base cl "_law_fraction" 2 2 F__law_fraction := ok__law_fraction hw T (k := 1) (G__law_common hw T) (by decide)
noncomputable def m__law_spread : XS :=
  sSeq (sAsg (e2 modD (eB intD [eV 0]) (eC (.int 2147483647))) (gN 1)) (sSeq (sAsg (eC (.int 1)) (gN 2)) (sSeq (sFor (iR [eC (.int 4)]) (gN 3) (sSeq (sAsg (e2 modD (eB intD [e2 addD (e2 addD (e2 mulD (eV 1) (eC (.int 48271))) (eC (.int 12345))) (eV 3)]) (eC (.int 2147483647))) (gN 1)) (sAsg (e2 addD (e2 mulD (eV 2) (eC (.int 2147483647))) (eV 1)) (gN 2)))) (sRet (eV 2))))
theorem sc__law_spread : FnScope ["cell", "blended", "whole_sum", "k"] ["cell"] (defScope s__law_spread) := ⟨rfl, rfl, rfl, by decide +kernel, rfl, by decide +kernel, by decide +kernel⟩
theorem ok__law_spread (hw : cl.w = w) (T : Txt K mg) {k : Nat} : DefOk P w K mg base cl "_law_spread" (k + 1) 1 (fnB 4 (m__law_spread)) := by
  obtain ⟨fd, Fd⟩ := T.d.def_ 20 (d := d__law_spread) rfl
  have sc := sc__law_spread
  have b_int : mg "int" = none := T.f _ (T.d.fact 47 (f := .free "int") rfl)
  have b_range : mg "range" = none := T.f _ (T.d.fact 53 (f := .free "range") rfl)
  refine okD (N := ["cell", "blended", "whole_sum", "k"]) (ps := ["cell"]) Fd sc (T.g _ (T.d.fact 20 (f := .glo "_law_spread") rfl)) (fun _ _ _ _ _ _ us hl => match us, hl with | [_], _ => rfl) fun cdv A outer s H E hr tk ow => ?_
  exact (pds_cons (pds_set 1 sc.nd (pd_op od_mod (pd_Ty cd_int (by rfl) b_int boot_int (pda_cons (pd_v 0) pda_nil)) pd_int)) (pds_cons (pds_set 2 sc.nd pd_int) (pds_cons (pds_for ow rfl (pdi_rng1 (by rfl) b_range pd_int) (pdg_name 3 sc.nd) (pds_cons (pds_set 1 sc.nd (pd_op od_mod (pd_Ty cd_int (by rfl) b_int boot_int (pda_cons (pd_op od_add (pd_op od_add (pd_op od_mul (pd_v 1) pd_int) pd_int) (pd_v 3)) pda_nil)) pd_int)) (pds_one (pds_set 2 sc.nd (pd_op od_add (pd_op od_mul (pd_v 2) pd_int) (pd_v 1)))))) (pds_one (pds_ret (pd_v 2))))))
noncomputable def F__law_spread : Fn := fnB 4 (m__law_spread)
theorem G__law_spread (hw : cl.w = w) (T : Txt K mg) : DefOk P w K mg base cl "_law_spread" 1 1 F__law_spread := ok__law_spread hw T (k := 0)
def m__law_draw (F__law_spread : Fn) : XS :=
  sSeq (sIf (tAn (tV (e2 leD (e2 ixD (eV 0) (eC (.int 2))) (eC (.int 0)))) (tV (e2 ltD (e2 ixD (eV 0) (eC (.int 1))) (eB lenD [e2 ixD (eV 0) (eC (.int 0))])))) (sSeq (sAsg (e2 ixD (e2 ixD (eV 0) (eC (.int 0))) (e2 ixD (eV 0) (eC (.int 1)))) (gN 2)) (sSeq (sAsg (e2 addD (e2 ixD (eV 0) (eC (.int 1))) (eC (.int 1))) (gS (eV 0) (eC (.int 1)))) (sSeq (sAsg (eV 2) (gS (eV 0) (eC (.int 2)))) (sIf (tV (e2 ltD (eV 2) (eC (.int 1000000000000000000)))) (sAsg (eB F__law_spread [eV 2]) (gS (eV 0) (eC (.int 2)))) (sNext))))) (sNext)) (sSeq (sAsg (e2 addD (e2 ixD (eV 0) (eC (.int 3))) (eC (.int 1))) (gS (eV 0) (eC (.int 3)))) (sSeq (sIf (tV (e2 leD (e2 ixD (eV 0) (eC (.int 2))) (eC (.int 0)))) (sSeq (sAsg (e2 modD (eB intD [e2 addD (e2 addD (e2 mulD (e2 ixD (eV 0) (eC (.int 4))) (eC (.int 48271))) (e2 mulD (e2 ixD (eV 0) (eC (.int 3))) (eC (.int 69621)))) (eC (.int 1))]) (eC (.int 2147483647))) (gN 3)) (sSeq (sAsg (e2 modD (eB intD [e2 addD (e2 mulD (eV 3) (eC (.int 16807))) (e2 ixD (eV 0) (eC (.int 3)))]) (eC (.int 2147483629))) (gN 3)) (sRet (e2 modD (e2 fdivD (eV 3) (eC (.int 5))) (eV 1))))) (sNext)) (sSeq (sAsg (e2 modD (eB intD [e2 ixD (eV 0) (eC (.int 2))]) (eV 1)) (gN 4)) (sSeq (sAsg (e2 fdivD (e2 ixD (eV 0) (eC (.int 2))) (eV 1)) (gS (eV 0) (eC (.int 2)))) (sRet (eV 4))))))
theorem sc__law_draw : FnScope ["pool", "many", "cell", "blended", "value"] ["pool", "many"] (defScope s__law_draw) := ⟨rfl, rfl, rfl, by decide +kernel, rfl, by decide +kernel, by decide +kernel⟩
theorem ok__law_draw (hw : cl.w = w) (T : Txt K mg) {k : Nat} {F__law_spread : Fn} {k__law_spread : Nat} (G__law_spread : DefOk P w K mg base cl "_law_spread" k__law_spread 1 F__law_spread) (l__law_spread : k__law_spread ≤ k) : DefOk P w K mg base cl "_law_draw" (k + 1) 2 (fnB 5 (m__law_draw F__law_spread)) := by
  obtain ⟨fd, Fd⟩ := T.d.def_ 21 (d := d__law_draw) rfl
  have sc := sc__law_draw
  have b_len : mg "len" = none := T.f _ (T.d.fact 49 (f := .free "len") rfl)
  have b_int : mg "int" = none := T.f _ (T.d.fact 47 (f := .free "int") rfl)
  refine okD (N := ["pool", "many", "cell", "blended", "value"]) (ps := ["pool", "many"]) Fd sc (T.g _ (T.d.fact 21 (f := .glo "_law_draw") rfl)) (fun _ _ _ _ _ _ us hl => match us, hl with | [_, _], _ => rfl) fun cdv A outer s H E hr tk ow => ?_
  exact (pds_cons (pds_if (pdt_bool (pdw_and (pdt_cmp od_le (pd_ix (room100 hr) hw (pd_v 0) pd_int) pd_int (nomark _)) (pdw_and1 (pdt_cmp od_lt (pd_ix (room100 hr) hw (pd_v 0) pd_int) (pd_B cd_len (by rfl) b_len boot_len (pda_cons (pd_ix (room100 hr) hw (pd_v 0) pd_int) pda_nil)) (nomark _))))) (pds_cons (pds_set 2 sc.nd (pd_ix (room100 hr) hw (pd_ix (room100 hr) hw (pd_v 0) pd_int) (pd_ix (room100 hr) hw (pd_v 0) pd_int))) (pds_cons (pds_asg (pd_op od_add (pd_ix (room100 hr) hw (pd_v 0) pd_int) pd_int) (pdg_sub (room100 hr) hw (pd_v 0) pd_int)) (pds_cons (pds_asg (pd_v 2) (pdg_sub (room100 hr) hw (pd_v 0) pd_int)) (pds_one (pds_if (pdt_cmp od_lt (pd_v 2) pd_int (nomark _)) (pds_one (pds_asg (pd_call G__law_spread hr tk (pda_cons (pd_v 2) pda_nil)) (pdg_sub (room100 hr) hw (pd_v 0) pd_int))) pds_nil))))) pds_nil) (pds_cons (pds_asg (pd_op od_add (pd_ix (room100 hr) hw (pd_v 0) pd_int) pd_int) (pdg_sub (room100 hr) hw (pd_v 0) pd_int)) (pds_cons (pds_if (pdt_cmp od_le (pd_ix (room100 hr) hw (pd_v 0) pd_int) pd_int (nomark _)) (pds_cons (pds_set 3 sc.nd (pd_op od_mod (pd_Ty cd_int (by rfl) b_int boot_int (pda_cons (pd_op od_add (pd_op od_add (pd_op od_mul (pd_ix (room100 hr) hw (pd_v 0) pd_int) pd_int) (pd_op od_mul (pd_ix (room100 hr) hw (pd_v 0) pd_int) pd_int)) pd_int) pda_nil)) pd_int)) (pds_cons (pds_set 3 sc.nd (pd_op od_mod (pd_Ty cd_int (by rfl) b_int boot_int (pda_cons (pd_op od_add (pd_op od_mul (pd_v 3) pd_int) (pd_ix (room100 hr) hw (pd_v 0) pd_int)) pda_nil)) pd_int)) (pds_one (pds_ret (pd_op od_mod (pd_op od_fdiv (pd_v 3) pd_int) (pd_v 1)))))) pds_nil) (pds_cons (pds_set 4 sc.nd (pd_op od_mod (pd_Ty cd_int (by rfl) b_int boot_int (pda_cons (pd_ix (room100 hr) hw (pd_v 0) pd_int) pda_nil)) (pd_v 1))) (pds_cons (pds_asg (pd_op od_fdiv (pd_ix (room100 hr) hw (pd_v 0) pd_int) (pd_v 1)) (pdg_sub (room100 hr) hw (pd_v 0) pd_int)) (pds_one (pds_ret (pd_v 4))))))))
noncomputable def F__law_draw : Fn := fnB 5 (m__law_draw F__law_spread)
theorem G__law_draw (hw : cl.w = w) (T : Txt K mg) : DefOk P w K mg base cl "_law_draw" 2 2 F__law_draw := ok__law_draw hw T (k := 1) (G__law_spread hw T) (by decide)
noncomputable def m__law_valuation (F__law_fraction : Fn) (F__law_draw : Fn) : XS :=
  sRet (eB tupleD [eLc (iS (eB sortedD [eV 1])) (.one 3) (tAll) (eTup [eV 3, eB F__law_fraction [eB F__law_draw [eV 0, e2 addD (eV 2) (eC (.int 1))], eV 2]]) [3]])
theorem sc__law_valuation : FnScope ["pool", "names", "n", "name"] ["pool", "names", "n"] (defScope s__law_valuation) := ⟨rfl, rfl, rfl, by decide +kernel, rfl, by decide +kernel, by decide +kernel⟩
theorem ok__law_valuation (hw : cl.w = w) (T : Txt K mg) {k : Nat} {F__law_fraction : Fn} {k__law_fraction : Nat} (G__law_fraction : DefOk P w K mg base cl "_law_fraction" k__law_fraction 2 F__law_fraction) {F__law_draw : Fn} {k__law_draw : Nat} (G__law_draw : DefOk P w K mg base cl "_law_draw" k__law_draw 2 F__law_draw) (l__law_fraction : k__law_fraction ≤ k) (l__law_draw : k__law_draw ≤ k) : DefOk P w K mg base cl "_law_valuation" (k + 1) 3 (fnB 4 (m__law_valuation F__law_fraction F__law_draw)) := by
  obtain ⟨fd, Fd⟩ := T.d.def_ 22 (d := d__law_valuation) rfl
  have sc := sc__law_valuation
  have b_sorted : mg "sorted" = none := T.f _ (T.d.fact 55 (f := .free "sorted") rfl)
  have b_tuple : mg "tuple" = none := T.f _ (T.d.fact 57 (f := .free "tuple") rfl)
  refine okD (N := ["pool", "names", "n", "name"]) (ps := ["pool", "names", "n"]) Fd sc (T.g _ (T.d.fact 22 (f := .glo "_law_valuation") rfl)) (fun _ _ _ _ _ _ us hl => match us, hl with | [_, _, _], _ => rfl) fun cdv A outer s H E hr tk ow => ?_
  exact (pds_one (pds_ret (pd_Ty cd_tuple (by rfl) b_tuple boot_tuple (pda_cons (pd_lc (own := [("name", 3)]) (g := .one 3) rfl sc.nd (pdi_seq (pd_B cd_sorted (by rfl) b_sorted boot_sorted (pda_cons (pd_v 1) pda_nil))) (by kernel_rfl) (fun _ _ _ _ _ => (pg_name (i := 3) sc.nd rfl (Or.inl rfl))) (fun _ _ _ _ _ => pts_all) (fun _ _ _ _ _ => (pd_tup (pda_cons (pd_v 3) (pda_cons (pd_call G__law_fraction hr takes0 (pda_cons (pd_call G__law_draw hr takes0 (pda_cons (pd_v 0) (pda_cons (pd_op od_add (pd_v 2) pd_int) pda_nil))) (pda_cons (pd_v 2) pda_nil))) pda_nil))))) pda_nil))))
noncomputable def F__law_valuation : Fn := fnB 4 (m__law_valuation F__law_fraction F__law_draw)
theorem G__law_valuation (hw : cl.w = w) (T : Txt K mg) : DefOk P w K mg base cl "_law_valuation" 3 3 F__law_valuation := ok__law_valuation hw T (k := 2) (G__law_fraction hw T) (G__law_draw hw T) (by decide) (by decide)
def m__law_pick (F__law_draw : Fn) : XS :=
  sRet (e2 ixD (eV 1) (eB F__law_draw [eV 0, eB lenD [eV 1]]))
theorem sc__law_pick : FnScope ["pool", "items"] ["pool", "items"] (defScope s__law_pick) := ⟨rfl, rfl, rfl, by decide +kernel, rfl, by decide +kernel, by decide +kernel⟩
theorem ok__law_pick (hw : cl.w = w) (T : Txt K mg) {k : Nat} {F__law_draw : Fn} {k__law_draw : Nat} (G__law_draw : DefOk P w K mg base cl "_law_draw" k__law_draw 2 F__law_draw) (l__law_draw : k__law_draw ≤ k) : DefOk P w K mg base cl "_law_pick" (k + 1) 2 (fnB 2 (m__law_pick F__law_draw)) := by
  obtain ⟨fd, Fd⟩ := T.d.def_ 23 (d := d__law_pick) rfl
  have sc := sc__law_pick
  have b_len : mg "len" = none := T.f _ (T.d.fact 49 (f := .free "len") rfl)
  refine okD (N := ["pool", "items"]) (ps := ["pool", "items"]) Fd sc (T.g _ (T.d.fact 23 (f := .glo "_law_pick") rfl)) (fun _ _ _ _ _ _ us hl => match us, hl with | [_, _], _ => rfl) fun cdv A outer s H E hr tk ow => ?_
  exact (pds_one (pds_ret (pd_ix (room100 hr) hw (pd_v 1) (pd_call G__law_draw hr tk (pda_cons (pd_v 0) (pda_cons (pd_B cd_len (by rfl) b_len boot_len (pda_cons (pd_v 1) pda_nil)) pda_nil))))))
noncomputable def F__law_pick : Fn := fnB 2 (m__law_pick F__law_draw)
theorem G__law_pick (hw : cl.w = w) (T : Txt K mg) : DefOk P w K mg base cl "_law_pick" 3 2 F__law_pick := ok__law_pick hw T (k := 2) (G__law_draw hw T) (by decide)
def m__law_formula (F__law_draw : Fn) (F__law_pick : Fn) (F__law_formula : Fn) : XS :=
  sSeq (sAsg (eB F__law_draw [eV 0, eIf (tV (e2 gtD (eV 2) (eC (.int 0)))) (eC (.int 11)) (eC (.int 2))]) (gN 3)) (sSeq (sIf (tV (e2 ltD (eV 3) (eC (.int 2)))) (sSeq (sAsg (eB F__law_draw [eV 0, eC (.int 16)]) (gN 4)) (sRet (eIf (tV (e2 eqD (eV 4) (eC (.int 0)))) (eTup [eC (.str "all")]) (eIf (tV (e2 eqD (eV 4) (eC (.int 1)))) (eTup [eC (.str "none")]) (eTup [eC (.str "name"), eB F__law_pick [eV 0, eV 1]]))))) (sNext)) (sSeq (sIf (tV (e2 ltD (eV 3) (eC (.int 4)))) (sRet (eTup [eC (.str "not"), eB F__law_formula [eV 0, eV 1, e2 subD (eV 2) (eC (.int 1))]])) (sNext)) (sSeq (sAsg (e2 ixD (eTup [eC (.str "plus"), eC (.str "times"), eC (.str "meet"), eC (.str "join"), eC (.str "then")]) (eB F__law_draw [eV 0, eC (.int 5)])) (gN 5)) (sSeq (sAsg (eB F__law_formula [eV 0, eV 1, e2 subD (eV 2) (eC (.int 1))]) (gN 6)) (sRet (eTup [eV 5, eV 6, eB F__law_formula [eV 0, eV 1, e2 subD (eV 2) (eC (.int 1))]]))))))
theorem sc__law_formula : FnScope ["pool", "names", "deep", "turn", "some", "word", "one"] ["pool", "names", "deep"] (defScope s__law_formula) := ⟨rfl, rfl, rfl, by decide +kernel, rfl, by decide +kernel, by decide +kernel⟩
theorem ok__law_formula (hw : cl.w = w) (T : Txt K mg) {k : Nat} {F__law_draw : Fn} {k__law_draw : Nat} (G__law_draw : DefOk P w K mg base cl "_law_draw" k__law_draw 2 F__law_draw) {F__law_pick : Fn} {k__law_pick : Nat} (G__law_pick : DefOk P w K mg base cl "_law_pick" k__law_pick 2 F__law_pick) {F__law_formula : Fn} {k__law_formula : Nat} (G__law_formula : DefOk P w K mg base cl "_law_formula" k__law_formula 3 F__law_formula) (l__law_draw : k__law_draw ≤ k) (l__law_pick : k__law_pick ≤ k) (l__law_formula : k__law_formula ≤ k) : DefOk P w K mg base cl "_law_formula" (k + 1) 3 (fnB 7 (m__law_formula F__law_draw F__law_pick F__law_formula)) := by
  obtain ⟨fd, Fd⟩ := T.d.def_ 24 (d := d__law_formula) rfl
  have sc := sc__law_formula
  refine okD (N := ["pool", "names", "deep", "turn", "some", "word", "one"]) (ps := ["pool", "names", "deep"]) Fd sc (T.g _ (T.d.fact 24 (f := .glo "_law_formula") rfl)) (fun _ _ _ _ _ _ us hl => match us, hl with | [_, _, _], _ => rfl) fun cdv A outer s H E hr tk ow => ?_
  exact (pds_cons (pds_set 3 sc.nd (pd_call G__law_draw hr tk (pda_cons (pd_v 0) (pda_cons (pd_if (pdt_cmp od_gt (pd_v 2) pd_int (nomark _)) pd_int pd_int) pda_nil)))) (pds_cons (pds_if (pdt_cmp od_lt (pd_v 3) pd_int (nomark _)) (pds_cons (pds_set 4 sc.nd (pd_call G__law_draw hr tk (pda_cons (pd_v 0) (pda_cons pd_int pda_nil)))) (pds_one (pds_ret (pd_if (pdt_cmp (od_eq hr.units) (pd_v 4) pd_int (nomark _)) (pd_tup (pda_cons pd_str pda_nil)) (pd_if (pdt_cmp (od_eq hr.units) (pd_v 4) pd_int (nomark _)) (pd_tup (pda_cons pd_str pda_nil)) (pd_tup (pda_cons pd_str (pda_cons (pd_call G__law_pick hr tk (pda_cons (pd_v 0) (pda_cons (pd_v 1) pda_nil))) pda_nil)))))))) pds_nil) (pds_cons (pds_if (pdt_cmp od_lt (pd_v 3) pd_int (nomark _)) (pds_one (pds_ret (pd_tup (pda_cons pd_str (pda_cons (pd_call G__law_formula hr tk (pda_cons (pd_v 0) (pda_cons (pd_v 1) (pda_cons (pd_op od_sub (pd_v 2) pd_int) pda_nil)))) pda_nil))))) pds_nil) (pds_cons (pds_set 5 sc.nd (pd_ix (room100 hr) hw (pd_tup (pda_cons pd_str (pda_cons pd_str (pda_cons pd_str (pda_cons pd_str (pda_cons pd_str pda_nil)))))) (pd_call G__law_draw hr tk (pda_cons (pd_v 0) (pda_cons pd_int pda_nil))))) (pds_cons (pds_set 6 sc.nd (pd_call G__law_formula hr tk (pda_cons (pd_v 0) (pda_cons (pd_v 1) (pda_cons (pd_op od_sub (pd_v 2) pd_int) pda_nil))))) (pds_one (pds_ret (pd_tup (pda_cons (pd_v 5) (pda_cons (pd_v 6) (pda_cons (pd_call G__law_formula hr tk (pda_cons (pd_v 0) (pda_cons (pd_v 1) (pda_cons (pd_op od_sub (pd_v 2) pd_int) pda_nil)))) pda_nil)))))))))))
noncomputable def R__law_formula : Nat → Fn
  | 0 => fun _ _ => none
  | d + 1 => fnB 7 (m__law_formula F__law_draw F__law_pick (R__law_formula d))
noncomputable def F__law_formula : Fn := R__law_formula 4
theorem GR__law_formula (hw : cl.w = w) (T : Txt K mg) : ∀ d, DefOk P w K mg base cl "_law_formula" (4 + d) 3 (R__law_formula d)
  | 0 => by
    obtain ⟨fd, Fd⟩ := T.d.def_ 24 (d := d__law_formula) rfl
    exact okD0 (ps := ["pool", "names", "deep"]) Fd (T.g _ (T.d.fact 24 (f := .glo "_law_formula") rfl)) (fun _ _ _ _ _ _ us hl => match us, hl with | [_, _, _], _ => rfl)
  | d + 1 => ok__law_formula hw T (k := 4 + d) (G__law_draw hw T) (G__law_pick hw T) (GR__law_formula hw T d) (by omega) (by omega) (Nat.le_refl _)
theorem G__law_formula (hw : cl.w = w) (T : Txt K mg) : DefOk P w K mg base cl "_law_formula" 8 3 F__law_formula := GR__law_formula hw T 4
noncomputable def m__law_theory (F__law_draw : Fn) (F__law_formula : Fn) : XS :=
  sRet (eB tupleD [eLc (iR [eB F__law_draw [eV 0, e2 addD (eV 2) (eC (.int 1))]]) (.one 4) (tAll) (eB F__law_formula [eV 0, eV 1, eV 3]) [4]])
theorem sc__law_theory : FnScope ["pool", "names", "many", "deep", "k"] ["pool", "names", "many", "deep"] (defScope s__law_theory) := ⟨rfl, rfl, rfl, by decide +kernel, rfl, by decide +kernel, by decide +kernel⟩
theorem ok__law_theory (hw : cl.w = w) (T : Txt K mg) {k : Nat} {F__law_draw : Fn} {k__law_draw : Nat} (G__law_draw : DefOk P w K mg base cl "_law_draw" k__law_draw 2 F__law_draw) {F__law_formula : Fn} {k__law_formula : Nat} (G__law_formula : DefOk P w K mg base cl "_law_formula" k__law_formula 3 F__law_formula) (l__law_draw : k__law_draw ≤ k) (l__law_formula : k__law_formula ≤ k) : DefOk P w K mg base cl "_law_theory" (k + 1) 4 (fnB 5 (m__law_theory F__law_draw F__law_formula)) := by
  obtain ⟨fd, Fd⟩ := T.d.def_ 25 (d := d__law_theory) rfl
  have sc := sc__law_theory
  have b_range : mg "range" = none := T.f _ (T.d.fact 53 (f := .free "range") rfl)
  have b_tuple : mg "tuple" = none := T.f _ (T.d.fact 57 (f := .free "tuple") rfl)
  refine okD (N := ["pool", "names", "many", "deep", "k"]) (ps := ["pool", "names", "many", "deep"]) Fd sc (T.g _ (T.d.fact 25 (f := .glo "_law_theory") rfl)) (fun _ _ _ _ _ _ us hl => match us, hl with | [_, _, _, _], _ => rfl) fun cdv A outer s H E hr tk ow => ?_
  exact (pds_one (pds_ret (pd_Ty cd_tuple (by rfl) b_tuple boot_tuple (pda_cons (pd_lc (own := [("k", 4)]) (g := .one 4) rfl sc.nd (pdi_rng1 (by rfl) b_range (pd_call G__law_draw hr tk (pda_cons (pd_v 0) (pda_cons (pd_op od_add (pd_v 2) pd_int) pda_nil)))) (by kernel_rfl) (fun _ _ _ _ _ => (pg_name (i := 4) sc.nd rfl (Or.inl rfl))) (fun _ _ _ _ _ => pts_all) (fun _ _ _ _ _ => (pd_call G__law_formula hr takes0 (pda_cons (pd_v 0) (pda_cons (pd_v 1) (pda_cons (pd_v 3) pda_nil)))))) pda_nil))))
noncomputable def F__law_theory : Fn := fnB 5 (m__law_theory F__law_draw F__law_formula)
theorem G__law_theory (hw : cl.w = w) (T : Txt K mg) : DefOk P w K mg base cl "_law_theory" 9 4 F__law_theory := ok__law_theory hw T (k := 8) (G__law_draw hw T) (G__law_formula hw T) (by decide) (by decide)
noncomputable def m__law_same (F__law_same : Fn) : XS :=
  sSeq (sIf (tOrr (tV (e1 (isiD .tuple) (eV 1))) (tV (e1 (isiD .list) (eV 1)))) (sSeq (sIf (tOrr (tV (e2 neD (e1 (isiD .tuple) (eV 1)) (e1 (isiD .tuple) (eV 0)))) (tV (e2 neD (e1 (isiD .list) (eV 1)) (e1 (isiD .list) (eV 0))))) (sRet (eC (.bl false))) (sNext)) (sSeq (sIf (tV (e2 neD (eB lenD [eV 0]) (eB lenD [eV 1]))) (sRet (eC (.bl false))) (sNext)) (sRet (e2 eqD (eB lenD [eLc (iR [eB lenD [eV 1]]) (.one 2) (tNo (tV (eB F__law_same [e2 ixD (eV 0) (eV 2), e2 ixD (eV 1) (eV 2)]))) (eV 2) [2]]) (eC (.int 0)))))) (sNext)) (sSeq (sIf (tV (e2 isND (eV 1) (eC .non))) (sRet (e2 isND (eV 0) (eC .non))) (sNext)) (sSeq (sIf (tOrr (tV (e1 (isiD .bool) (eV 1))) (tV (e1 (isiD .bool) (eV 0)))) (sRet (eAn (e1 (isiD .bool) (eV 1)) (eAn (e1 (isiD .bool) (eV 0)) (e2 eqD (eV 0) (eV 1))))) (sNext)) (sSeq (sIf (tV (e1 (isiD .int) (eV 1))) (sRet (eAn (e1 (isiD .int) (eV 0)) (e2 eqD (eV 0) (eV 1)))) (sNext)) (sRet (eAn (e1 (isiD .str) (eV 0)) (e2 eqD (eV 0) (eV 1)))))))
theorem sc__law_same : FnScope ["actual", "due", "k"] ["actual", "due"] (defScope s__law_same) := ⟨rfl, rfl, rfl, by decide +kernel, rfl, by decide +kernel, by decide +kernel⟩
theorem ok__law_same (hw : cl.w = w) (T : Txt K mg) {k : Nat} {F__law_same : Fn} {k__law_same : Nat} (G__law_same : DefOk P w K mg base cl "_law_same" k__law_same 2 F__law_same) (l__law_same : k__law_same ≤ k) : DefOk P w K mg base cl "_law_same" (k + 1) 2 (fnB 3 (m__law_same F__law_same)) := by
  obtain ⟨fd, Fd⟩ := T.d.def_ 26 (d := d__law_same) rfl
  have sc := sc__law_same
  have b_isinstance : mg "isinstance" = none := T.f _ (T.d.fact 48 (f := .free "isinstance") rfl)
  have b_tuple : mg "tuple" = none := T.f _ (T.d.fact 57 (f := .free "tuple") rfl)
  have b_list : mg "list" = none := T.f _ (T.d.fact 50 (f := .free "list") rfl)
  have b_len : mg "len" = none := T.f _ (T.d.fact 49 (f := .free "len") rfl)
  have b_range : mg "range" = none := T.f _ (T.d.fact 53 (f := .free "range") rfl)
  have b_bool : mg "bool" = none := T.f _ (T.d.fact 45 (f := .free "bool") rfl)
  have b_int : mg "int" = none := T.f _ (T.d.fact 47 (f := .free "int") rfl)
  have b_str : mg "str" = none := T.f _ (T.d.fact 56 (f := .free "str") rfl)
  refine okD (N := ["actual", "due", "k"]) (ps := ["actual", "due"]) Fd sc (T.g _ (T.d.fact 26 (f := .glo "_law_same") rfl)) (fun _ _ _ _ _ _ us hl => match us, hl with | [_, _], _ => rfl) fun cdv A outer s H E hr tk ow => ?_
  exact (pds_cons (pds_if (pdt_bool (pdw_or (pdt_val (pd_isi .tuple (by rfl) b_isinstance (by rfl) b_tuple boot_isinstance (by decide +kernel) (pd_v 1))) (pdw_or1 (pdt_val (pd_isi .list (by rfl) b_isinstance (by rfl) b_list boot_isinstance (by decide +kernel) (pd_v 1)))))) (pds_cons (pds_if (pdt_bool (pdw_or (pdt_cmp (od_ne hr.units) (pd_isi .tuple (by rfl) b_isinstance (by rfl) b_tuple boot_isinstance (by decide +kernel) (pd_v 1)) (pd_isi .tuple (by rfl) b_isinstance (by rfl) b_tuple boot_isinstance (by decide +kernel) (pd_v 0)) (nomark _)) (pdw_or1 (pdt_cmp (od_ne hr.units) (pd_isi .list (by rfl) b_isinstance (by rfl) b_list boot_isinstance (by decide +kernel) (pd_v 1)) (pd_isi .list (by rfl) b_isinstance (by rfl) b_list boot_isinstance (by decide +kernel) (pd_v 0)) (nomark _))))) (pds_one (pds_ret pd_bl)) pds_nil) (pds_cons (pds_if (pdt_cmp (od_ne hr.units) (pd_B cd_len (by rfl) b_len boot_len (pda_cons (pd_v 0) pda_nil)) (pd_B cd_len (by rfl) b_len boot_len (pda_cons (pd_v 1) pda_nil)) (nomark _)) (pds_one (pds_ret pd_bl)) pds_nil) (pds_one (pds_ret (pd_cmp (od_eq hr.units) (pd_B cd_len (by rfl) b_len boot_len (pda_cons (pd_lc (own := [("k", 2)]) (g := .one 2) rfl sc.nd (pdi_rng1 (by rfl) b_range (pd_B cd_len (by rfl) b_len boot_len (pda_cons (pd_v 1) pda_nil))) (by kernel_rfl) (fun _ _ _ _ _ => (pg_name (i := 2) sc.nd rfl (Or.inl rfl))) (fun _ _ _ _ _ => (pts_one (pdt_not (pdt_val (pd_call G__law_same hr takes0 (pda_cons (pd_ix (room100 hr) hw (pd_v 0) (pd_v 2)) (pda_cons (pd_ix (room100 hr) hw (pd_v 1) (pd_v 2)) pda_nil))))))) (fun _ _ _ _ _ => (pd_v 2))) pda_nil)) pd_int (nomark _)))))) pds_nil) (pds_cons (pds_if (pdt_cmp od_isN (pd_v 1) pd_non (nomark _)) (pds_one (pds_ret (pd_cmp od_isN (pd_v 0) pd_non (nomark _)))) pds_nil) (pds_cons (pds_if (pdt_bool (pdw_or (pdt_val (pd_isi .bool (by rfl) b_isinstance (by rfl) b_bool boot_isinstance (by decide +kernel) (pd_v 1))) (pdw_or1 (pdt_val (pd_isi .bool (by rfl) b_isinstance (by rfl) b_bool boot_isinstance (by decide +kernel) (pd_v 0)))))) (pds_one (pds_ret (pd_and (pd_isi .bool (by rfl) b_isinstance (by rfl) b_bool boot_isinstance (by decide +kernel) (pd_v 1)) (pd_and (pd_isi .bool (by rfl) b_isinstance (by rfl) b_bool boot_isinstance (by decide +kernel) (pd_v 0)) (pd_one (pd_cmp (od_eq hr.units) (pd_v 0) (pd_v 1) (nomark _))))))) pds_nil) (pds_cons (pds_if (pdt_val (pd_isi .int (by rfl) b_isinstance (by rfl) b_int boot_isinstance (by decide +kernel) (pd_v 1))) (pds_one (pds_ret (pd_and (pd_isi .int (by rfl) b_isinstance (by rfl) b_int boot_isinstance (by decide +kernel) (pd_v 0)) (pd_one (pd_cmp (od_eq hr.units) (pd_v 0) (pd_v 1) (nomark _)))))) pds_nil) (pds_one (pds_ret (pd_and (pd_isi .str (by rfl) b_isinstance (by rfl) b_str boot_isinstance (by decide +kernel) (pd_v 0)) (pd_one (pd_cmp (od_eq hr.units) (pd_v 0) (pd_v 1) (nomark _))))))))))
noncomputable def R__law_same : Nat → Fn
  | 0 => fun _ _ => none
  | d + 1 => fnB 3 (m__law_same (R__law_same d))
noncomputable def F__law_same : Fn := R__law_same 12
theorem GR__law_same (hw : cl.w = w) (T : Txt K mg) : ∀ d, DefOk P w K mg base cl "_law_same" (1 + d) 2 (R__law_same d)
  | 0 => by
    obtain ⟨fd, Fd⟩ := T.d.def_ 26 (d := d__law_same) rfl
    exact okD0 (ps := ["actual", "due"]) Fd (T.g _ (T.d.fact 26 (f := .glo "_law_same") rfl)) (fun _ _ _ _ _ _ us hl => match us, hl with | [_, _], _ => rfl)
  | d + 1 => ok__law_same hw T (k := 1 + d) (GR__law_same hw T d) (Nat.le_refl _)
theorem G__law_same (hw : cl.w = w) (T : Txt K mg) : DefOk P w K mg base cl "_law_same" 13 2 F__law_same := GR__law_same hw T 12
def m__law_units (F__law_units : Fn) : XS :=
  sSeq (sAsg (e2 ixD (eV 0) (eC (.int 0))) (gN 3)) (sSeq (sIf (tV (e2 memD (eV 3) (eTup [eC (.str "all"), eC (.str "none")]))) (sRet (eIf (tV (e2 eqD (eV 3) (eC (.str "all")))) (eV 2) (eC (.int 0)))) (sNext)) (sSeq (sIf (tV (e2 eqD (eV 3) (eC (.str "name")))) (sRet (e2 ixD (eV 1) (e2 ixD (eV 0) (eC (.int 1))))) (sNext)) (sSeq (sAsg (eB F__law_units [e2 ixD (eV 0) (eC (.int 1)), eV 1, eV 2]) (gN 4)) (sSeq (sIf (tV (e2 eqD (eV 3) (eC (.str "not")))) (sRet (e2 subD (eV 2) (eV 4))) (sNext)) (sSeq (sAsg (eB F__law_units [e2 ixD (eV 0) (eC (.int 2)), eV 1, eV 2]) (gN 5)) (sSeq (sIf (tV (e2 eqD (eV 3) (eC (.str "plus")))) (sRet (eB minD [eV 2, e2 addD (eV 4) (eV 5)])) (sNext)) (sSeq (sIf (tV (e2 eqD (eV 3) (eC (.str "times")))) (sRet (eB maxD [eC (.int 0), e2 subD (e2 addD (eV 4) (eV 5)) (eV 2)])) (sNext)) (sRet (eIf (tV (e2 eqD (eV 3) (eC (.str "meet")))) (eB minD [eV 4, eV 5]) (eIf (tV (e2 eqD (eV 3) (eC (.str "join")))) (eB maxD [eV 4, eV 5]) (eB minD [eV 2, e2 addD (e2 subD (eV 2) (eV 4)) (eV 5)])))))))))))
theorem sc__law_units : FnScope ["formula", "known", "n", "word", "x", "y"] ["formula", "known", "n"] (defScope s__law_units) := ⟨rfl, rfl, rfl, by decide +kernel, rfl, by decide +kernel, by decide +kernel⟩
theorem ok__law_units (hw : cl.w = w) (T : Txt K mg) {k : Nat} {F__law_units : Fn} {k__law_units : Nat} (G__law_units : DefOk P w K mg base cl "_law_units" k__law_units 3 F__law_units) (l__law_units : k__law_units ≤ k) : DefOk P w K mg base cl "_law_units" (k + 1) 3 (fnB 6 (m__law_units F__law_units)) := by
  obtain ⟨fd, Fd⟩ := T.d.def_ 27 (d := d__law_units) rfl
  have sc := sc__law_units
  have b_min : mg "min" = none := T.f _ (T.d.fact 52 (f := .free "min") rfl)
  have b_max : mg "max" = none := T.f _ (T.d.fact 51 (f := .free "max") rfl)
  refine okD (N := ["formula", "known", "n", "word", "x", "y"]) (ps := ["formula", "known", "n"]) Fd sc (T.g _ (T.d.fact 27 (f := .glo "_law_units") rfl)) (fun _ _ _ _ _ _ us hl => match us, hl with | [_, _, _], _ => rfl) fun cdv A outer s H E hr tk ow => ?_
  exact (pds_cons (pds_set 3 sc.nd (pd_ix (room100 hr) hw (pd_v 0) pd_int)) (pds_cons (pds_if (pdt_cmp (od_in (room100 hr) hw) (pd_v 3) (pd_tup (pda_cons pd_str (pda_cons pd_str pda_nil))) (by rfl)) (pds_one (pds_ret (pd_if (pdt_cmp (od_eq hr.units) (pd_v 3) pd_str (nomark _)) (pd_v 2) pd_int))) pds_nil) (pds_cons (pds_if (pdt_cmp (od_eq hr.units) (pd_v 3) pd_str (nomark _)) (pds_one (pds_ret (pd_ix (room100 hr) hw (pd_v 1) (pd_ix (room100 hr) hw (pd_v 0) pd_int)))) pds_nil) (pds_cons (pds_set 4 sc.nd (pd_call G__law_units hr tk (pda_cons (pd_ix (room100 hr) hw (pd_v 0) pd_int) (pda_cons (pd_v 1) (pda_cons (pd_v 2) pda_nil))))) (pds_cons (pds_if (pdt_cmp (od_eq hr.units) (pd_v 3) pd_str (nomark _)) (pds_one (pds_ret (pd_op od_sub (pd_v 2) (pd_v 4)))) pds_nil) (pds_cons (pds_set 5 sc.nd (pd_call G__law_units hr tk (pda_cons (pd_ix (room100 hr) hw (pd_v 0) pd_int) (pda_cons (pd_v 1) (pda_cons (pd_v 2) pda_nil))))) (pds_cons (pds_if (pdt_cmp (od_eq hr.units) (pd_v 3) pd_str (nomark _)) (pds_one (pds_ret (pd_B (cd_min rfl) (by rfl) b_min boot_min (pda_cons (pd_v 2) (pda_cons (pd_op od_add (pd_v 4) (pd_v 5)) pda_nil))))) pds_nil) (pds_cons (pds_if (pdt_cmp (od_eq hr.units) (pd_v 3) pd_str (nomark _)) (pds_one (pds_ret (pd_B (cd_max rfl) (by rfl) b_max boot_max (pda_cons pd_int (pda_cons (pd_op od_sub (pd_op od_add (pd_v 4) (pd_v 5)) (pd_v 2)) pda_nil))))) pds_nil) (pds_one (pds_ret (pd_if (pdt_cmp (od_eq hr.units) (pd_v 3) pd_str (nomark _)) (pd_B (cd_min rfl) (by rfl) b_min boot_min (pda_cons (pd_v 4) (pda_cons (pd_v 5) pda_nil))) (pd_if (pdt_cmp (od_eq hr.units) (pd_v 3) pd_str (nomark _)) (pd_B (cd_max rfl) (by rfl) b_max boot_max (pda_cons (pd_v 4) (pda_cons (pd_v 5) pda_nil))) (pd_B (cd_min rfl) (by rfl) b_min boot_min (pda_cons (pd_v 2) (pda_cons (pd_op od_add (pd_op od_sub (pd_v 2) (pd_v 4)) (pd_v 5)) pda_nil)))))))))))))))
noncomputable def R__law_units : Nat → Fn
  | 0 => fun _ _ => none
  | d + 1 => fnB 6 (m__law_units (R__law_units d))
noncomputable def F__law_units : Fn := R__law_units 5
theorem GR__law_units (hw : cl.w = w) (T : Txt K mg) : ∀ d, DefOk P w K mg base cl "_law_units" (1 + d) 3 (R__law_units d)
  | 0 => by
    obtain ⟨fd, Fd⟩ := T.d.def_ 27 (d := d__law_units) rfl
    exact okD0 (ps := ["formula", "known", "n"]) Fd (T.g _ (T.d.fact 27 (f := .glo "_law_units") rfl)) (fun _ _ _ _ _ _ us hl => match us, hl with | [_, _, _], _ => rfl)
  | d + 1 => ok__law_units hw T (k := 1 + d) (GR__law_units hw T d) (Nat.le_refl _)
theorem G__law_units (hw : cl.w = w) (T : Txt K mg) : DefOk P w K mg base cl "_law_units" 6 3 F__law_units := GR__law_units hw T 5
noncomputable def m__law_degree (F__law_common : Fn) (F__law_fraction : Fn) (F__law_units : Fn) : XS :=
  sSeq (sAsg (eC (.int 1)) (gN 2)) (sSeq (sFor (iS (eV 0)) (gT [gN 3, gN 4]) (sAsg (e2 fdivD (e2 mulD (eV 2) (e2 ixD (eV 4) (eC (.int 1)))) (eB F__law_common [eV 2, e2 ixD (eV 4) (eC (.int 1))])) (gN 2))) (sSeq (sAsg (eB dictD [eLc (iS (eV 0)) (.tup [3, 4]) (tAll) (eTup [eV 3, e2 mulD (e2 ixD (eV 4) (eC (.int 0))) (e2 fdivD (eV 2) (e2 ixD (eV 4) (eC (.int 1))))]) [3, 4]]) (gN 5)) (sRet (eB F__law_fraction [eB F__law_units [eV 1, eV 5, eV 2], eV 2]))))
theorem sc__law_degree : FnScope ["valuation", "formula", "n", "word", "degree", "known"] ["valuation", "formula"] (defScope s__law_degree) := ⟨rfl, rfl, rfl, by decide +kernel, rfl, by decide +kernel, by decide +kernel⟩
theorem ok__law_degree (hw : cl.w = w) (T : Txt K mg) {k : Nat} {F__law_common : Fn} {k__law_common : Nat} (G__law_common : DefOk P w K mg base cl "_law_common" k__law_common 2 F__law_common) {F__law_fraction : Fn} {k__law_fraction : Nat} (G__law_fraction : DefOk P w K mg base cl "_law_fraction" k__law_fraction 2 F__law_fraction) {F__law_units : Fn} {k__law_units : Nat} (G__law_units : DefOk P w K mg base cl "_law_units" k__law_units 3 F__law_units) (l__law_common : k__law_common ≤ k) (l__law_fraction : k__law_fraction ≤ k) (l__law_units : k__law_units ≤ k) : DefOk P w K mg base cl "_law_degree" (k + 1) 2 (fnB 6 (m__law_degree F__law_common F__law_fraction F__law_units)) := by
  obtain ⟨fd, Fd⟩ := T.d.def_ 28 (d := d__law_degree) rfl
  have sc := sc__law_degree
  have b_dict : mg "dict" = none := T.f _ (T.d.fact 46 (f := .free "dict") rfl)
  refine okD (N := ["valuation", "formula", "n", "word", "degree", "known"]) (ps := ["valuation", "formula"]) Fd sc (T.g _ (T.d.fact 28 (f := .glo "_law_degree") rfl)) (fun _ _ _ _ _ _ us hl => match us, hl with | [_, _], _ => rfl) fun cdv A outer s H E hr tk ow => ?_
  exact (pds_cons (pds_set 2 sc.nd pd_int) (pds_cons (pds_for ow rfl (pdi_seq (pd_v 0)) (pdg_tup rfl (pdgs_cons (pdg_name 3 sc.nd) (pdgs_cons (pdg_name 4 sc.nd) pdgs_nil))) (pds_one (pds_set 2 sc.nd (pd_op od_fdiv (pd_op od_mul (pd_v 2) (pd_ix (room100 hr) hw (pd_v 4) pd_int)) (pd_call G__law_common hr tk (pda_cons (pd_v 2) (pda_cons (pd_ix (room100 hr) hw (pd_v 4) pd_int) pda_nil))))))) (pds_cons (pds_set 5 sc.nd (pd_Ty (cd_dict rfl) (by rfl) b_dict boot_dict (pda_cons (pd_lc (own := [("word", 3), ("degree", 4)]) (g := .tup [3, 4]) rfl sc.nd (pdi_seq (pd_v 0)) (by kernel_rfl) (fun _ _ _ _ _ => (pg_tup rfl (pgs_cons (pg_name (i := 3) sc.nd rfl (Or.inl rfl)) (pgs_cons (pg_name (i := 4) sc.nd rfl (Or.inl rfl)) pgs_nil)))) (fun _ _ _ _ _ => pts_all) (fun _ _ _ _ _ => (pd_tup (pda_cons (pd_v 3) (pda_cons (pd_op od_mul (pd_ix (room100 hr) hw (pd_v 4) pd_int) (pd_op od_fdiv (pd_v 2) (pd_ix (room100 hr) hw (pd_v 4) pd_int))) pda_nil))))) pda_nil))) (pds_one (pds_ret (pd_call G__law_fraction hr tk (pda_cons (pd_call G__law_units hr tk (pda_cons (pd_v 1) (pda_cons (pd_v 5) (pda_cons (pd_v 2) pda_nil)))) (pda_cons (pd_v 2) pda_nil))))))))
noncomputable def F__law_degree : Fn := truncF (fnB 6 (m__law_degree F__law_common F__law_fraction F__law_units))
theorem G__law_degree (hw : cl.w = w) (T : Txt K mg) : DefOk P w K mg base cl "_law_degree" 7 2 F__law_degree := DefOk.trunc (ok__law_degree hw T (k := 6) (G__law_common hw T) (G__law_fraction hw T) (G__law_units hw T) (by decide) (by decide) (by decide))
noncomputable def m__law_full (F__law_degree : Fn) : XS :=
  sRet (e2 eqD (eB lenD [eLc (iS (eV 1)) (.one 2) (tV (e2 neD (eB F__law_degree [eV 0, eV 2]) (eTup [eC (.int 1), eC (.int 1)]))) (eV 2) [2]]) (eC (.int 0)))
theorem sc__law_full : FnScope ["valuation", "theory", "formula"] ["valuation", "theory"] (defScope s__law_full) := ⟨rfl, rfl, rfl, by decide +kernel, rfl, by decide +kernel, by decide +kernel⟩
theorem ok__law_full (hw : cl.w = w) (T : Txt K mg) {k : Nat} {F__law_degree : Fn} {k__law_degree : Nat} (G__law_degree : DefOk P w K mg base cl "_law_degree" k__law_degree 2 F__law_degree) (l__law_degree : k__law_degree ≤ k) : DefOk P w K mg base cl "_law_full" (k + 1) 2 (fnB 3 (m__law_full F__law_degree)) := by
  obtain ⟨fd, Fd⟩ := T.d.def_ 29 (d := d__law_full) rfl
  have sc := sc__law_full
  have b_len : mg "len" = none := T.f _ (T.d.fact 49 (f := .free "len") rfl)
  refine okD (N := ["valuation", "theory", "formula"]) (ps := ["valuation", "theory"]) Fd sc (T.g _ (T.d.fact 29 (f := .glo "_law_full") rfl)) (fun _ _ _ _ _ _ us hl => match us, hl with | [_, _], _ => rfl) fun cdv A outer s H E hr tk ow => ?_
  exact (pds_one (pds_ret (pd_cmp (od_eq hr.units) (pd_B cd_len (by rfl) b_len boot_len (pda_cons (pd_lc (own := [("formula", 2)]) (g := .one 2) rfl sc.nd (pdi_seq (pd_v 1)) (by kernel_rfl) (fun _ _ _ _ _ => (pg_name (i := 2) sc.nd rfl (Or.inl rfl))) (fun _ _ _ _ _ => (pts_one (pdt_cmp (od_ne hr.units) (pd_call G__law_degree hr takes0 (pda_cons (pd_v 0) (pda_cons (pd_v 2) pda_nil))) (pd_tup (pda_cons pd_int (pda_cons pd_int pda_nil))) (nomark _)))) (fun _ _ _ _ _ => (pd_v 2))) pda_nil)) pd_int (nomark _))))
noncomputable def F__law_full : Fn := fnB 3 (m__law_full F__law_degree)
theorem G__law_full (hw : cl.w = w) (T : Txt K mg) : DefOk P w K mg base cl "_law_full" 8 2 F__law_full := ok__law_full hw T (k := 7) (G__law_degree hw T) (by decide)
noncomputable def m__law_spots (F__law_spots : Fn) : XS :=
  sSeq (sAsg (eLst [eV 1]) (gN 2)) (sSeq (sIf (tV (e1 (isiD .tuple) (eV 0))) (sFor (iR [eB lenD [eV 0]]) (gN 3) (sAsg (e2 addD (eV 2) (eB F__law_spots [e2 ixD (eV 0) (eV 3), e2 addD (eV 1) (eLst [eV 3])])) (gN 2))) (sNext)) (sRet (eV 2)))
theorem sc__law_spots : FnScope ["value", "path", "found", "k"] ["value", "path"] (defScope s__law_spots) := ⟨rfl, rfl, rfl, by decide +kernel, rfl, by decide +kernel, by decide +kernel⟩
theorem ok__law_spots (hw : cl.w = w) (T : Txt K mg) {k : Nat} {F__law_spots : Fn} {k__law_spots : Nat} (G__law_spots : DefOk P w K mg base cl "_law_spots" k__law_spots 2 F__law_spots) (l__law_spots : k__law_spots ≤ k) : DefOk P w K mg base cl "_law_spots" (k + 1) 2 (fnB 4 (m__law_spots F__law_spots)) := by
  obtain ⟨fd, Fd⟩ := T.d.def_ 30 (d := d__law_spots) rfl
  have sc := sc__law_spots
  have b_isinstance : mg "isinstance" = none := T.f _ (T.d.fact 48 (f := .free "isinstance") rfl)
  have b_tuple : mg "tuple" = none := T.f _ (T.d.fact 57 (f := .free "tuple") rfl)
  have b_len : mg "len" = none := T.f _ (T.d.fact 49 (f := .free "len") rfl)
  have b_range : mg "range" = none := T.f _ (T.d.fact 53 (f := .free "range") rfl)
  refine okD (N := ["value", "path", "found", "k"]) (ps := ["value", "path"]) Fd sc (T.g _ (T.d.fact 30 (f := .glo "_law_spots") rfl)) (fun _ _ _ _ _ _ us hl => match us, hl with | [_, _], _ => rfl) fun cdv A outer s H E hr tk ow => ?_
  exact (pds_cons (pds_set 2 sc.nd (pd_lst (pda_cons (pd_v 1) pda_nil))) (pds_cons (pds_if (pdt_val (pd_isi .tuple (by rfl) b_isinstance (by rfl) b_tuple boot_isinstance (by decide +kernel) (pd_v 0))) (pds_one (pds_for ow rfl (pdi_rng1 (by rfl) b_range (pd_B cd_len (by rfl) b_len boot_len (pda_cons (pd_v 0) pda_nil))) (pdg_name 3 sc.nd) (pds_one (pds_set 2 sc.nd (pd_op od_add (pd_v 2) (pd_call G__law_spots hr tk (pda_cons (pd_ix (room100 hr) hw (pd_v 0) (pd_v 3)) (pda_cons (pd_op od_add (pd_v 1) (pd_lst (pda_cons (pd_v 3) pda_nil))) pda_nil)))))))) pds_nil) (pds_one (pds_ret (pd_v 2)))))
noncomputable def R__law_spots : Nat → Fn
  | 0 => fun _ _ => none
  | d + 1 => fnB 4 (m__law_spots (R__law_spots d))
noncomputable def F__law_spots : Fn := R__law_spots 6
theorem GR__law_spots (hw : cl.w = w) (T : Txt K mg) : ∀ d, DefOk P w K mg base cl "_law_spots" (1 + d) 2 (R__law_spots d)
  | 0 => by
    obtain ⟨fd, Fd⟩ := T.d.def_ 30 (d := d__law_spots) rfl
    exact okD0 (ps := ["value", "path"]) Fd (T.g _ (T.d.fact 30 (f := .glo "_law_spots") rfl)) (fun _ _ _ _ _ _ us hl => match us, hl with | [_, _], _ => rfl)
  | d + 1 => ok__law_spots hw T (k := 1 + d) (GR__law_spots hw T d) (Nat.le_refl _)
theorem G__law_spots (hw : cl.w = w) (T : Txt K mg) : DefOk P w K mg base cl "_law_spots" 7 2 F__law_spots := GR__law_spots hw T 6
def m__law_spot_put (F__law_spot_put : Fn) : XS :=
  sSeq (sIf (tV (e2 eqD (eB lenD [eV 1]) (eC (.int 0)))) (sRet (eV 2)) (sNext)) (sRet (e2 addD (e2 addD (eSl (eV 0) (pNo) (pSo (e2 ixD (eV 1) (eC (.int 0))))) (eTup [eB F__law_spot_put [e2 ixD (eV 0) (e2 ixD (eV 1) (eC (.int 0))), eSl (eV 1) (pSo (eC (.int 1))) (pNo), eV 2]])) (eSl (eV 0) (pSo (e2 addD (e2 ixD (eV 1) (eC (.int 0))) (eC (.int 1)))) (pNo))))
theorem sc__law_spot_put : FnScope ["value", "path", "item"] ["value", "path", "item"] (defScope s__law_spot_put) := ⟨rfl, rfl, rfl, by decide +kernel, rfl, by decide +kernel, by decide +kernel⟩
theorem ok__law_spot_put (hw : cl.w = w) (T : Txt K mg) {k : Nat} {F__law_spot_put : Fn} {k__law_spot_put : Nat} (G__law_spot_put : DefOk P w K mg base cl "_law_spot_put" k__law_spot_put 3 F__law_spot_put) (l__law_spot_put : k__law_spot_put ≤ k) : DefOk P w K mg base cl "_law_spot_put" (k + 1) 3 (fnB 3 (m__law_spot_put F__law_spot_put)) := by
  obtain ⟨fd, Fd⟩ := T.d.def_ 31 (d := d__law_spot_put) rfl
  have sc := sc__law_spot_put
  have b_len : mg "len" = none := T.f _ (T.d.fact 49 (f := .free "len") rfl)
  refine okD (N := ["value", "path", "item"]) (ps := ["value", "path", "item"]) Fd sc (T.g _ (T.d.fact 31 (f := .glo "_law_spot_put") rfl)) (fun _ _ _ _ _ _ us hl => match us, hl with | [_, _, _], _ => rfl) fun cdv A outer s H E hr tk ow => ?_
  exact (pds_cons (pds_if (pdt_cmp (od_eq hr.units) (pd_B cd_len (by rfl) b_len boot_len (pda_cons (pd_v 1) pda_nil)) pd_int (nomark _)) (pds_one (pds_ret (pd_v 2))) pds_nil) (pds_one (pds_ret (pd_op od_add (pd_op od_add (pd_sl (pd_v 0) po_no (po_so (pd_ix (room100 hr) hw (pd_v 1) pd_int))) (pd_tup (pda_cons (pd_call G__law_spot_put hr tk (pda_cons (pd_ix (room100 hr) hw (pd_v 0) (pd_ix (room100 hr) hw (pd_v 1) pd_int)) (pda_cons (pd_sl (pd_v 1) (po_so pd_int) po_no) (pda_cons (pd_v 2) pda_nil)))) pda_nil))) (pd_sl (pd_v 0) (po_so (pd_op od_add (pd_ix (room100 hr) hw (pd_v 1) pd_int) pd_int)) po_no)))))
noncomputable def R__law_spot_put : Nat → Fn
  | 0 => fun _ _ => none
  | d + 1 => fnB 3 (m__law_spot_put (R__law_spot_put d))
noncomputable def F__law_spot_put : Fn := R__law_spot_put 6
theorem GR__law_spot_put (hw : cl.w = w) (T : Txt K mg) : ∀ d, DefOk P w K mg base cl "_law_spot_put" (1 + d) 3 (R__law_spot_put d)
  | 0 => by
    obtain ⟨fd, Fd⟩ := T.d.def_ 31 (d := d__law_spot_put) rfl
    exact okD0 (ps := ["value", "path", "item"]) Fd (T.g _ (T.d.fact 31 (f := .glo "_law_spot_put") rfl)) (fun _ _ _ _ _ _ us hl => match us, hl with | [_, _, _], _ => rfl)
  | d + 1 => ok__law_spot_put hw T (k := 1 + d) (GR__law_spot_put hw T d) (Nat.le_refl _)
theorem G__law_spot_put (hw : cl.w = w) (T : Txt K mg) : DefOk P w K mg base cl "_law_spot_put" 7 3 F__law_spot_put := GR__law_spot_put hw T 6
def m__law_bent_spot (F__law_pick : Fn) : XS :=
  sSeq (sIf (tV (e1 (isiD .tuple) (eV 1))) (sRet (eB F__law_pick [eV 0, eLst [eSl (eV 1) (pSo (eC (.int 1))) (pNo), e2 addD (eV 1) (eSl (eV 1) (pSo (e1 negD (eC (.int 1)))) (pNo)), e1 revD (eV 1), eB listD [eV 1], eC .non, eTup [], e2 addD (eV 1) (eTup [eC (.int 0)]), eTup [eC (.str "name"), eC (.str "a")], eTup [eC (.str "not"), eV 1], eTup [eC (.int 0), eC (.int 1)], eTup [eC (.int 1), eC (.int 2)]]])) (sNext)) (sSeq (sIf (tV (e1 (isiD .str) (eV 1))) (sRet (eB F__law_pick [eV 0, eLst [eC (.str "all"), eC (.str "none"), eC (.str "name"), eC (.str "plus"), eC (.str "times"), eC (.str "meet"), eC (.str "join"), eC (.str "then"), eC (.str "least"), eC (.str "never"), eC (.str "split"), eC (.str "piece"), eC (.str "a"), eC (.str "b"), eC (.str "power"), eC .non]])) (sNext)) (sSeq (sIf (tV (e2 isND (eV 1) (eC .non))) (sRet (eB F__law_pick [eV 0, eLst [eTup [], eC (.int 0), eC (.bl false)]])) (sNext)) (sRet (eB F__law_pick [eV 0, eLst [e2 addD (eV 1) (eC (.int 1)), e2 subD (eV 1) (eC (.int 1)), e2 addD (eV 1) (eC (.int 0)), e2 eqD (eV 1) (eC (.int 1)), eC .non, eB strD [eV 1], eC (.int 7)]]))))
theorem sc__law_bent_spot : FnScope ["pool", "value"] ["pool", "value"] (defScope s__law_bent_spot) := ⟨rfl, rfl, rfl, by decide +kernel, rfl, by decide +kernel, by decide +kernel⟩
theorem ok__law_bent_spot (hw : cl.w = w) (T : Txt K mg) {k : Nat} {F__law_pick : Fn} {k__law_pick : Nat} (G__law_pick : DefOk P w K mg base cl "_law_pick" k__law_pick 2 F__law_pick) (l__law_pick : k__law_pick ≤ k) : DefOk P w K mg base cl "_law_bent_spot" (k + 1) 2 (fnB 2 (m__law_bent_spot F__law_pick)) := by
  obtain ⟨fd, Fd⟩ := T.d.def_ 32 (d := d__law_bent_spot) rfl
  have sc := sc__law_bent_spot
  have b_isinstance : mg "isinstance" = none := T.f _ (T.d.fact 48 (f := .free "isinstance") rfl)
  have b_tuple : mg "tuple" = none := T.f _ (T.d.fact 57 (f := .free "tuple") rfl)
  have b_list : mg "list" = none := T.f _ (T.d.fact 50 (f := .free "list") rfl)
  have b_str : mg "str" = none := T.f _ (T.d.fact 56 (f := .free "str") rfl)
  refine okD (N := ["pool", "value"]) (ps := ["pool", "value"]) Fd sc (T.g _ (T.d.fact 32 (f := .glo "_law_bent_spot") rfl)) (fun _ _ _ _ _ _ us hl => match us, hl with | [_, _], _ => rfl) fun cdv A outer s H E hr tk ow => ?_
  exact (pds_cons (pds_if (pdt_val (pd_isi .tuple (by rfl) b_isinstance (by rfl) b_tuple boot_isinstance (by decide +kernel) (pd_v 1))) (pds_one (pds_ret (pd_call G__law_pick hr tk (pda_cons (pd_v 0) (pda_cons (pd_lst (pda_cons (pd_sl (pd_v 1) (po_so pd_int) po_no) (pda_cons (pd_op od_add (pd_v 1) (pd_sl (pd_v 1) (po_so (pd_neg pd_int)) po_no)) (pda_cons (pd_rev (pd_v 1)) (pda_cons (pd_Ty (cd_list rfl hw) (by rfl) b_list boot_list (pda_cons (pd_v 1) pda_nil)) (pda_cons pd_non (pda_cons (pd_tup pda_nil) (pda_cons (pd_op od_add (pd_v 1) (pd_tup (pda_cons pd_int pda_nil))) (pda_cons (pd_tup (pda_cons pd_str (pda_cons pd_str pda_nil))) (pda_cons (pd_tup (pda_cons pd_str (pda_cons (pd_v 1) pda_nil))) (pda_cons (pd_tup (pda_cons pd_int (pda_cons pd_int pda_nil))) (pda_cons (pd_tup (pda_cons pd_int (pda_cons pd_int pda_nil))) pda_nil)))))))))))) pda_nil))))) pds_nil) (pds_cons (pds_if (pdt_val (pd_isi .str (by rfl) b_isinstance (by rfl) b_str boot_isinstance (by decide +kernel) (pd_v 1))) (pds_one (pds_ret (pd_call G__law_pick hr tk (pda_cons (pd_v 0) (pda_cons (pd_lst (pda_cons pd_str (pda_cons pd_str (pda_cons pd_str (pda_cons pd_str (pda_cons pd_str (pda_cons pd_str (pda_cons pd_str (pda_cons pd_str (pda_cons pd_str (pda_cons pd_str (pda_cons pd_str (pda_cons pd_str (pda_cons pd_str (pda_cons pd_str (pda_cons pd_str (pda_cons pd_non pda_nil))))))))))))))))) pda_nil))))) pds_nil) (pds_cons (pds_if (pdt_cmp od_isN (pd_v 1) pd_non (nomark _)) (pds_one (pds_ret (pd_call G__law_pick hr tk (pda_cons (pd_v 0) (pda_cons (pd_lst (pda_cons (pd_tup pda_nil) (pda_cons pd_int (pda_cons pd_bl pda_nil)))) pda_nil))))) pds_nil) (pds_one (pds_ret (pd_call G__law_pick hr tk (pda_cons (pd_v 0) (pda_cons (pd_lst (pda_cons (pd_op od_add (pd_v 1) pd_int) (pda_cons (pd_op od_sub (pd_v 1) pd_int) (pda_cons (pd_op od_add (pd_v 1) pd_int) (pda_cons (pd_cmp (od_eq hr.units) (pd_v 1) pd_int (nomark _)) (pda_cons pd_non (pda_cons (pd_Ty cd_str (by rfl) b_str boot_str (pda_cons (pd_v 1) pda_nil)) (pda_cons pd_int pda_nil)))))))) pda_nil))))))))
noncomputable def F__law_bent_spot : Fn := fnB 2 (m__law_bent_spot F__law_pick)
theorem G__law_bent_spot (hw : cl.w = w) (T : Txt K mg) : DefOk P w K mg base cl "_law_bent_spot" 4 2 F__law_bent_spot := ok__law_bent_spot hw T (k := 3) (G__law_pick hw T) (by decide)
noncomputable def m__law_spot : XS :=
  sSeq (sFor (iS (eV 1)) (gN 2) (sAsg (e2 ixD (eV 0) (eV 2)) (gN 0))) (sRet (eV 0))
theorem sc__law_spot : FnScope ["value", "path", "step"] ["value", "path"] (defScope s__law_spot) := ⟨rfl, rfl, rfl, by decide +kernel, rfl, by decide +kernel, by decide +kernel⟩
theorem ok__law_spot (hw : cl.w = w) (T : Txt K mg) {k : Nat} : DefOk P w K mg base cl "_law_spot" (k + 1) 2 (fnB 3 (m__law_spot)) := by
  obtain ⟨fd, Fd⟩ := T.d.def_ 33 (d := d__law_spot) rfl
  have sc := sc__law_spot
  refine okD (N := ["value", "path", "step"]) (ps := ["value", "path"]) Fd sc (T.g _ (T.d.fact 33 (f := .glo "_law_spot") rfl)) (fun _ _ _ _ _ _ us hl => match us, hl with | [_, _], _ => rfl) fun cdv A outer s H E hr tk ow => ?_
  exact (pds_cons (pds_for ow rfl (pdi_seq (pd_v 1)) (pdg_name 2 sc.nd) (pds_one (pds_set 0 sc.nd (pd_ix (room100 hr) hw (pd_v 0) (pd_v 2))))) (pds_one (pds_ret (pd_v 0))))
noncomputable def F__law_spot : Fn := fnB 3 (m__law_spot)
theorem G__law_spot (hw : cl.w = w) (T : Txt K mg) : DefOk P w K mg base cl "_law_spot" 1 2 F__law_spot := ok__law_spot hw T (k := 0)
def m__law_odd_values : XS :=
  sRet (eLst [eC .non, eC (.bl true), eC (.bl false), eC (.int 0), eC (.int 1), e1 negD (eC (.int 1)), eC (.str ""), eC (.str "least"), eTup [], eLst [], eC .emp, eTup [eC (.int 0)], eTup [eC (.bl true)], eTup [eTup []], eLst [eC (.int 0), eC (.int 1)], eTup [eC (.int 0), eC (.int 0)], eTup [eC (.int 1), eC (.int 0), eC (.int 2)], eTup [eC (.int 0), eC (.int 1)], eTup [eC (.int 1), eC (.int 1)], eTup [eC (.str "least")], eTup [eC (.str "never"), eTup []], eTup [eC (.str "never"), eTup [], eTup []], eTup [eC (.str "name"), eC (.str "a")], eTup [eC (.str "all")], eTup [eC (.str "piece"), eTup [eC (.int 0), eTup []]]])
theorem sc__law_odd_values : FnScope [] [] (defScope s__law_odd_values) := ⟨rfl, rfl, rfl, by decide +kernel, rfl, by decide +kernel, by decide +kernel⟩
theorem ok__law_odd_values (hw : cl.w = w) (T : Txt K mg) {k : Nat} : DefOk P w K mg base cl "_law_odd_values" (k + 1) 0 (fnB 0 (m__law_odd_values)) := by
  obtain ⟨fd, Fd⟩ := T.d.def_ 34 (d := d__law_odd_values) rfl
  have sc := sc__law_odd_values
  refine okD (N := []) (ps := []) Fd sc (T.g _ (T.d.fact 34 (f := .glo "_law_odd_values") rfl)) (fun _ _ _ _ _ _ us hl => match us, hl with | [], _ => rfl) fun cdv A outer s H E hr tk ow => ?_
  exact (pds_one (pds_ret (pd_lst (pda_cons pd_non (pda_cons pd_bl (pda_cons pd_bl (pda_cons pd_int (pda_cons pd_int (pda_cons (pd_neg pd_int) (pda_cons pd_str (pda_cons pd_str (pda_cons (pd_tup pda_nil) (pda_cons (pd_lst pda_nil) (pda_cons pd_emp (pda_cons (pd_tup (pda_cons pd_int pda_nil)) (pda_cons (pd_tup (pda_cons pd_bl pda_nil)) (pda_cons (pd_tup (pda_cons (pd_tup pda_nil) pda_nil)) (pda_cons (pd_lst (pda_cons pd_int (pda_cons pd_int pda_nil))) (pda_cons (pd_tup (pda_cons pd_int (pda_cons pd_int pda_nil))) (pda_cons (pd_tup (pda_cons pd_int (pda_cons pd_int (pda_cons pd_int pda_nil)))) (pda_cons (pd_tup (pda_cons pd_int (pda_cons pd_int pda_nil))) (pda_cons (pd_tup (pda_cons pd_int (pda_cons pd_int pda_nil))) (pda_cons (pd_tup (pda_cons pd_str pda_nil)) (pda_cons (pd_tup (pda_cons pd_str (pda_cons (pd_tup pda_nil) pda_nil))) (pda_cons (pd_tup (pda_cons pd_str (pda_cons (pd_tup pda_nil) (pda_cons (pd_tup pda_nil) pda_nil)))) (pda_cons (pd_tup (pda_cons pd_str (pda_cons pd_str pda_nil))) (pda_cons (pd_tup (pda_cons pd_str pda_nil)) (pda_cons (pd_tup (pda_cons pd_str (pda_cons (pd_tup (pda_cons pd_int (pda_cons (pd_tup pda_nil) pda_nil))) pda_nil))) pda_nil))))))))))))))))))))))))))))
noncomputable def F__law_odd_values : Fn := fnB 0 (m__law_odd_values)
theorem G__law_odd_values (hw : cl.w = w) (T : Txt K mg) : DefOk P w K mg base cl "_law_odd_values" 1 0 F__law_odd_values := ok__law_odd_values hw T (k := 0)
noncomputable def m__law_bent (F__law_spots : Fn) (F__law_pick : Fn) (F__law_spot_put : Fn) (F__law_bent_spot : Fn) (F__law_spot : Fn) (F__law_odd_values : Fn) : XS :=
  sSeq (sAsg (eLstM [eV 1, eB listD [eV 1], e2 addD (eV 1) (eTup [eC (.int 0)]), eTup [e2 ixD (eV 1) (eC (.int 0))], e1 revD (eV 1)]) (gN 3)) (sSeq (sAsg (eB F__law_spots [eV 1, eLst []]) (gN 4)) (sSeq (sFor (iR [eV 2]) (gN 5) (sSeq (sAsg (eB F__law_pick [eV 0, eV 4]) (gN 6)) (sExpr (eM isObL appL (eV 3) [eB F__law_spot_put [eV 1, eV 6, eB F__law_bent_spot [eV 0, eB F__law_spot [eV 1, eV 6]]]])))) (sRet (e2 addD (eV 3) (eB F__law_odd_values [])))))
theorem sc__law_bent : FnScope ["pool", "paper", "many", "found", "spots", "k", "path"] ["pool", "paper", "many"] (defScope s__law_bent) := ⟨rfl, rfl, rfl, by decide +kernel, rfl, by decide +kernel, by decide +kernel⟩
theorem ok__law_bent (hw : cl.w = w) (T : Txt K mg) {k : Nat} {F__law_spots : Fn} {k__law_spots : Nat} (G__law_spots : DefOk P w K mg base cl "_law_spots" k__law_spots 2 F__law_spots) {F__law_pick : Fn} {k__law_pick : Nat} (G__law_pick : DefOk P w K mg base cl "_law_pick" k__law_pick 2 F__law_pick) {F__law_spot_put : Fn} {k__law_spot_put : Nat} (G__law_spot_put : DefOk P w K mg base cl "_law_spot_put" k__law_spot_put 3 F__law_spot_put) {F__law_bent_spot : Fn} {k__law_bent_spot : Nat} (G__law_bent_spot : DefOk P w K mg base cl "_law_bent_spot" k__law_bent_spot 2 F__law_bent_spot) {F__law_spot : Fn} {k__law_spot : Nat} (G__law_spot : DefOk P w K mg base cl "_law_spot" k__law_spot 2 F__law_spot) {F__law_odd_values : Fn} {k__law_odd_values : Nat} (G__law_odd_values : DefOk P w K mg base cl "_law_odd_values" k__law_odd_values 0 F__law_odd_values) (l__law_spots : k__law_spots ≤ k) (l__law_pick : k__law_pick ≤ k) (l__law_spot_put : k__law_spot_put ≤ k) (l__law_bent_spot : k__law_bent_spot ≤ k) (l__law_spot : k__law_spot ≤ k) (l__law_odd_values : k__law_odd_values ≤ k) : DefOk P w K mg base cl "_law_bent" (k + 1) 3 (fnB 7 (m__law_bent F__law_spots F__law_pick F__law_spot_put F__law_bent_spot F__law_spot F__law_odd_values)) := by
  obtain ⟨fd, Fd⟩ := T.d.def_ 35 (d := d__law_bent) rfl
  have sc := sc__law_bent
  have b_list : mg "list" = none := T.f _ (T.d.fact 50 (f := .free "list") rfl)
  have b_range : mg "range" = none := T.f _ (T.d.fact 53 (f := .free "range") rfl)
  refine okD (N := ["pool", "paper", "many", "found", "spots", "k", "path"]) (ps := ["pool", "paper", "many"]) Fd sc (T.g _ (T.d.fact 35 (f := .glo "_law_bent") rfl)) (fun _ _ _ _ _ _ us hl => match us, hl with | [_, _, _], _ => rfl) fun cdv A outer s H E hr tk ow => ?_
  exact (pds_cons (pds_set 3 sc.nd (pd_lstM (pda_cons (pd_v 1) (pda_cons (pd_Ty (cd_list rfl hw) (by rfl) b_list boot_list (pda_cons (pd_v 1) pda_nil)) (pda_cons (pd_op od_add (pd_v 1) (pd_tup (pda_cons pd_int pda_nil))) (pda_cons (pd_tup (pda_cons (pd_ix (room100 hr) hw (pd_v 1) pd_int) pda_nil)) (pda_cons (pd_rev (pd_v 1)) pda_nil))))))) (pds_cons (pds_set 4 sc.nd (pd_call G__law_spots hr tk (pda_cons (pd_v 1) (pda_cons (pd_lst pda_nil) pda_nil)))) (pds_cons (pds_for ow rfl (pdi_rng1 (by rfl) b_range (pd_v 2)) (pdg_name 5 sc.nd) (pds_cons (pds_set 6 sc.nd (pd_call G__law_pick hr tk (pda_cons (pd_v 0) (pda_cons (pd_v 4) pda_nil)))) (pds_one (pds_expr (pd_bm mk_app (pe_bm PySem.F.plainAttrs_list PySem.F.slot_list_append PySem.F.type_list_append mt_append (pd_v 3) (pda_cons (pd_call G__law_spot_put hr tk (pda_cons (pd_v 1) (pda_cons (pd_v 6) (pda_cons (pd_call G__law_bent_spot hr tk (pda_cons (pd_v 0) (pda_cons (pd_call G__law_spot hr tk (pda_cons (pd_v 1) (pda_cons (pd_v 6) pda_nil))) pda_nil))) pda_nil)))) pda_nil))))))) (pds_one (pds_ret (pd_op od_add (pd_v 3) (pd_call0 G__law_odd_values hr tk)))))))
noncomputable def F__law_bent : Fn := truncF (fnB 7 (m__law_bent F__law_spots F__law_pick F__law_spot_put F__law_bent_spot F__law_spot F__law_odd_values))
theorem G__law_bent (hw : cl.w = w) (T : Txt K mg) : DefOk P w K mg base cl "_law_bent" 8 3 F__law_bent := DefOk.trunc (ok__law_bent hw T (k := 7) (G__law_spots hw T) (G__law_pick hw T) (G__law_spot_put hw T) (G__law_bent_spot hw T) (G__law_spot hw T) (G__law_odd_values hw T) (by decide) (by decide) (by decide) (by decide) (by decide) (by decide))
noncomputable def m__law_is_word : XS :=
  sSeq (sIf (tOrr (tNo (tV (e1 (isiD .str) (eV 0)))) (tOrr (tV (e2 memD (eV 0) (eTup [eC (.str "all"), eC (.str "and"), eC (.str "for"), eC (.str "join"), eC (.str "meet"), eC (.str "none"), eC (.str "not"), eC (.str "or"), eC (.str "then")]))) (tOrr (tV (e2 ltD (eB lenD [eV 0]) (eC (.int 1)))) (tV (e2 gtD (eB lenD [eV 0]) (eC (.int 12))))))) (sRet (eC (.bl false))) (sNext)) (sRet (e2 eqD (eB lenD [eLc (iS (eV 0)) (.one 1) (tOrr (tV (e2 ltD (eV 1) (eC (.str "a")))) (tV (e2 gtD (eV 1) (eC (.str "z"))))) (eV 1) [1]]) (eC (.int 0))))
theorem sc__law_is_word : FnScope ["value", "sign"] ["value"] (defScope s__law_is_word) := ⟨rfl, rfl, rfl, by decide +kernel, rfl, by decide +kernel, by decide +kernel⟩
theorem ok__law_is_word (hw : cl.w = w) (T : Txt K mg) {k : Nat} : DefOk P w K mg base cl "_law_is_word" (k + 1) 1 (fnB 2 (m__law_is_word)) := by
  obtain ⟨fd, Fd⟩ := T.d.def_ 36 (d := d__law_is_word) rfl
  have sc := sc__law_is_word
  have b_isinstance : mg "isinstance" = none := T.f _ (T.d.fact 48 (f := .free "isinstance") rfl)
  have b_str : mg "str" = none := T.f _ (T.d.fact 56 (f := .free "str") rfl)
  have b_len : mg "len" = none := T.f _ (T.d.fact 49 (f := .free "len") rfl)
  refine okD (N := ["value", "sign"]) (ps := ["value"]) Fd sc (T.g _ (T.d.fact 36 (f := .glo "_law_is_word") rfl)) (fun _ _ _ _ _ _ us hl => match us, hl with | [_], _ => rfl) fun cdv A outer s H E hr tk ow => ?_
  exact (pds_cons (pds_if (pdt_bool (pdw_or (pdt_not (pdt_val (pd_isi .str (by rfl) b_isinstance (by rfl) b_str boot_isinstance (by decide +kernel) (pd_v 0)))) (pdw_or (pdt_cmp (od_in (room100 hr) hw) (pd_v 0) (pd_tup (pda_cons pd_str (pda_cons pd_str (pda_cons pd_str (pda_cons pd_str (pda_cons pd_str (pda_cons pd_str (pda_cons pd_str (pda_cons pd_str (pda_cons pd_str pda_nil)))))))))) (by rfl)) (pdw_or (pdt_cmp od_lt (pd_B cd_len (by rfl) b_len boot_len (pda_cons (pd_v 0) pda_nil)) pd_int (nomark _)) (pdw_or1 (pdt_cmp od_gt (pd_B cd_len (by rfl) b_len boot_len (pda_cons (pd_v 0) pda_nil)) pd_int (nomark _))))))) (pds_one (pds_ret pd_bl)) pds_nil) (pds_one (pds_ret (pd_cmp (od_eq hr.units) (pd_B cd_len (by rfl) b_len boot_len (pda_cons (pd_lc (own := [("sign", 1)]) (g := .one 1) rfl sc.nd (pdi_seq (pd_v 0)) (by kernel_rfl) (fun _ _ _ _ _ => (pg_name (i := 1) sc.nd rfl (Or.inl rfl))) (fun _ _ _ _ _ => (pts_one (pdt_bool (pdw_or (pdt_cmp od_lt (pd_v 1) pd_str (nomark _)) (pdw_or1 (pdt_cmp od_gt (pd_v 1) pd_str (nomark _))))))) (fun _ _ _ _ _ => (pd_v 1))) pda_nil)) pd_int (nomark _)))))
noncomputable def F__law_is_word : Fn := fnB 2 (m__law_is_word)
theorem G__law_is_word (hw : cl.w = w) (T : Txt K mg) : DefOk P w K mg base cl "_law_is_word" 1 1 F__law_is_word := ok__law_is_word hw T (k := 0)
def m__law_is_integer : XS :=
  sRet (eAn (e1 (isiD .int) (eV 0)) (eNo (e1 (isiD .bool) (eV 0))))
theorem sc__law_is_integer : FnScope ["actual"] ["actual"] (defScope s__law_is_integer) := ⟨rfl, rfl, rfl, by decide +kernel, rfl, by decide +kernel, by decide +kernel⟩
theorem ok__law_is_integer (hw : cl.w = w) (T : Txt K mg) {k : Nat} : DefOk P w K mg base cl "_law_is_integer" (k + 1) 1 (fnB 1 (m__law_is_integer)) := by
  obtain ⟨fd, Fd⟩ := T.d.def_ 37 (d := d__law_is_integer) rfl
  have sc := sc__law_is_integer
  have b_isinstance : mg "isinstance" = none := T.f _ (T.d.fact 48 (f := .free "isinstance") rfl)
  have b_int : mg "int" = none := T.f _ (T.d.fact 47 (f := .free "int") rfl)
  have b_bool : mg "bool" = none := T.f _ (T.d.fact 45 (f := .free "bool") rfl)
  refine okD (N := ["actual"]) (ps := ["actual"]) Fd sc (T.g _ (T.d.fact 37 (f := .glo "_law_is_integer") rfl)) (fun _ _ _ _ _ _ us hl => match us, hl with | [_], _ => rfl) fun cdv A outer s H E hr tk ow => ?_
  exact (pds_one (pds_ret (pd_and (pd_isi .int (by rfl) b_isinstance (by rfl) b_int boot_isinstance (by decide +kernel) (pd_v 0)) (pd_one (pd_not (pd_isi .bool (by rfl) b_isinstance (by rfl) b_bool boot_isinstance (by decide +kernel) (pd_v 0)))))))
noncomputable def F__law_is_integer : Fn := fnB 1 (m__law_is_integer)
theorem G__law_is_integer (hw : cl.w = w) (T : Txt K mg) : DefOk P w K mg base cl "_law_is_integer" 1 1 F__law_is_integer := ok__law_is_integer hw T (k := 0)
noncomputable def m__law_is_row (F__law_is_integer : Fn) : XS :=
  sRet (eAn (e1 (isiD .tuple) (eV 0)) (eAn (e2 eqD (eB lenD [eV 0]) (eV 1)) (e2 eqD (eB lenD [eLc (iS (eV 0)) (.one 2) (tNo (tV (eB F__law_is_integer [eV 2]))) (eV 2) [2]]) (eC (.int 0)))))
theorem sc__law_is_row : FnScope ["value", "many", "n"] ["value", "many"] (defScope s__law_is_row) := ⟨rfl, rfl, rfl, by decide +kernel, rfl, by decide +kernel, by decide +kernel⟩
theorem ok__law_is_row (hw : cl.w = w) (T : Txt K mg) {k : Nat} {F__law_is_integer : Fn} {k__law_is_integer : Nat} (G__law_is_integer : DefOk P w K mg base cl "_law_is_integer" k__law_is_integer 1 F__law_is_integer) (l__law_is_integer : k__law_is_integer ≤ k) : DefOk P w K mg base cl "_law_is_row" (k + 1) 2 (fnB 3 (m__law_is_row F__law_is_integer)) := by
  obtain ⟨fd, Fd⟩ := T.d.def_ 38 (d := d__law_is_row) rfl
  have sc := sc__law_is_row
  have b_isinstance : mg "isinstance" = none := T.f _ (T.d.fact 48 (f := .free "isinstance") rfl)
  have b_tuple : mg "tuple" = none := T.f _ (T.d.fact 57 (f := .free "tuple") rfl)
  have b_len : mg "len" = none := T.f _ (T.d.fact 49 (f := .free "len") rfl)
  refine okD (N := ["value", "many", "n"]) (ps := ["value", "many"]) Fd sc (T.g _ (T.d.fact 38 (f := .glo "_law_is_row") rfl)) (fun _ _ _ _ _ _ us hl => match us, hl with | [_, _], _ => rfl) fun cdv A outer s H E hr tk ow => ?_
  exact (pds_one (pds_ret (pd_and (pd_isi .tuple (by rfl) b_isinstance (by rfl) b_tuple boot_isinstance (by decide +kernel) (pd_v 0)) (pd_and (pd_cmp (od_eq hr.units) (pd_B cd_len (by rfl) b_len boot_len (pda_cons (pd_v 0) pda_nil)) (pd_v 1) (nomark _)) (pd_one (pd_cmp (od_eq hr.units) (pd_B cd_len (by rfl) b_len boot_len (pda_cons (pd_lc (own := [("n", 2)]) (g := .one 2) rfl sc.nd (pdi_seq (pd_v 0)) (by kernel_rfl) (fun _ _ _ _ _ => (pg_name (i := 2) sc.nd rfl (Or.inl rfl))) (fun _ _ _ _ _ => (pts_one (pdt_not (pdt_val (pd_call G__law_is_integer hr takes0 (pda_cons (pd_v 2) pda_nil)))))) (fun _ _ _ _ _ => (pd_v 2))) pda_nil)) pd_int (nomark _)))))))
noncomputable def F__law_is_row : Fn := fnB 3 (m__law_is_row F__law_is_integer)
theorem G__law_is_row (hw : cl.w = w) (T : Txt K mg) : DefOk P w K mg base cl "_law_is_row" 2 2 F__law_is_row := ok__law_is_row hw T (k := 1) (G__law_is_integer hw T) (by decide)
def m__law_is_fraction (F__law_is_row : Fn) (F__law_common : Fn) : XS :=
  sSeq (sIf (tOrr (tNo (tV (e1 (isiD .tuple) (eV 0)))) (tOrr (tV (e2 neD (eB lenD [eV 0]) (eC (.int 2)))) (tNo (tV (eB F__law_is_row [eV 0, eC (.int 2)]))))) (sRet (eC (.bl false))) (sNext)) (sRet (eAn (e2 gtD (e2 ixD (eV 0) (eC (.int 1))) (eC (.int 0))) (e2 eqD (eB F__law_common [eB absD [e2 ixD (eV 0) (eC (.int 0))], e2 ixD (eV 0) (eC (.int 1))]) (eC (.int 1)))))
theorem sc__law_is_fraction : FnScope ["value"] ["value"] (defScope s__law_is_fraction) := ⟨rfl, rfl, rfl, by decide +kernel, rfl, by decide +kernel, by decide +kernel⟩
theorem ok__law_is_fraction (hw : cl.w = w) (T : Txt K mg) {k : Nat} {F__law_is_row : Fn} {k__law_is_row : Nat} (G__law_is_row : DefOk P w K mg base cl "_law_is_row" k__law_is_row 2 F__law_is_row) {F__law_common : Fn} {k__law_common : Nat} (G__law_common : DefOk P w K mg base cl "_law_common" k__law_common 2 F__law_common) (l__law_is_row : k__law_is_row ≤ k) (l__law_common : k__law_common ≤ k) : DefOk P w K mg base cl "_law_is_fraction" (k + 1) 1 (fnB 1 (m__law_is_fraction F__law_is_row F__law_common)) := by
  obtain ⟨fd, Fd⟩ := T.d.def_ 39 (d := d__law_is_fraction) rfl
  have sc := sc__law_is_fraction
  have b_isinstance : mg "isinstance" = none := T.f _ (T.d.fact 48 (f := .free "isinstance") rfl)
  have b_tuple : mg "tuple" = none := T.f _ (T.d.fact 57 (f := .free "tuple") rfl)
  have b_len : mg "len" = none := T.f _ (T.d.fact 49 (f := .free "len") rfl)
  have b_abs : mg "abs" = none := T.f _ (T.d.fact 43 (f := .free "abs") rfl)
  refine okD (N := ["value"]) (ps := ["value"]) Fd sc (T.g _ (T.d.fact 39 (f := .glo "_law_is_fraction") rfl)) (fun _ _ _ _ _ _ us hl => match us, hl with | [_], _ => rfl) fun cdv A outer s H E hr tk ow => ?_
  exact (pds_cons (pds_if (pdt_bool (pdw_or (pdt_not (pdt_val (pd_isi .tuple (by rfl) b_isinstance (by rfl) b_tuple boot_isinstance (by decide +kernel) (pd_v 0)))) (pdw_or (pdt_cmp (od_ne hr.units) (pd_B cd_len (by rfl) b_len boot_len (pda_cons (pd_v 0) pda_nil)) pd_int (nomark _)) (pdw_or1 (pdt_not (pdt_val (pd_call G__law_is_row hr tk (pda_cons (pd_v 0) (pda_cons pd_int pda_nil))))))))) (pds_one (pds_ret pd_bl)) pds_nil) (pds_one (pds_ret (pd_and (pd_cmp od_gt (pd_ix (room100 hr) hw (pd_v 0) pd_int) pd_int (nomark _)) (pd_one (pd_cmp (od_eq hr.units) (pd_call G__law_common hr tk (pda_cons (pd_B cd_abs (by rfl) b_abs boot_abs (pda_cons (pd_ix (room100 hr) hw (pd_v 0) pd_int) pda_nil)) (pda_cons (pd_ix (room100 hr) hw (pd_v 0) pd_int) pda_nil))) pd_int (nomark _)))))))
noncomputable def F__law_is_fraction : Fn := fnB 1 (m__law_is_fraction F__law_is_row F__law_common)
theorem G__law_is_fraction (hw : cl.w = w) (T : Txt K mg) : DefOk P w K mg base cl "_law_is_fraction" 3 1 F__law_is_fraction := ok__law_is_fraction hw T (k := 2) (G__law_is_row hw T) (G__law_common hw T) (by decide) (by decide)
def m__law_is_degree (F__law_is_fraction : Fn) : XS :=
  sRet (eAn (eB F__law_is_fraction [eV 0]) (eAn (e2 geD (e2 ixD (eV 0) (eC (.int 0))) (eC (.int 0))) (e2 leD (e2 ixD (eV 0) (eC (.int 0))) (e2 ixD (eV 0) (eC (.int 1))))))
theorem sc__law_is_degree : FnScope ["value"] ["value"] (defScope s__law_is_degree) := ⟨rfl, rfl, rfl, by decide +kernel, rfl, by decide +kernel, by decide +kernel⟩
theorem ok__law_is_degree (hw : cl.w = w) (T : Txt K mg) {k : Nat} {F__law_is_fraction : Fn} {k__law_is_fraction : Nat} (G__law_is_fraction : DefOk P w K mg base cl "_law_is_fraction" k__law_is_fraction 1 F__law_is_fraction) (l__law_is_fraction : k__law_is_fraction ≤ k) : DefOk P w K mg base cl "_law_is_degree" (k + 1) 1 (fnB 1 (m__law_is_degree F__law_is_fraction)) := by
  obtain ⟨fd, Fd⟩ := T.d.def_ 40 (d := d__law_is_degree) rfl
  have sc := sc__law_is_degree
  refine okD (N := ["value"]) (ps := ["value"]) Fd sc (T.g _ (T.d.fact 40 (f := .glo "_law_is_degree") rfl)) (fun _ _ _ _ _ _ us hl => match us, hl with | [_], _ => rfl) fun cdv A outer s H E hr tk ow => ?_
  exact (pds_one (pds_ret (pd_and (pd_call G__law_is_fraction hr tk (pda_cons (pd_v 0) pda_nil)) (pd_and (pd_cmp od_ge (pd_ix (room100 hr) hw (pd_v 0) pd_int) pd_int (nomark _)) (pd_one (pd_cmp od_le (pd_ix (room100 hr) hw (pd_v 0) pd_int) (pd_ix (room100 hr) hw (pd_v 0) pd_int) (nomark _)))))))
noncomputable def F__law_is_degree : Fn := fnB 1 (m__law_is_degree F__law_is_fraction)
theorem G__law_is_degree (hw : cl.w = w) (T : Txt K mg) : DefOk P w K mg base cl "_law_is_degree" 4 1 F__law_is_degree := ok__law_is_degree hw T (k := 3) (G__law_is_fraction hw T) (by decide)
noncomputable def m__law_is_valuation (F__law_is_word : Fn) (F__law_is_degree : Fn) : XS :=
  sSeq (sIf (tOrr (tNo (tV (e1 (isiD .tuple) (eV 0)))) (tV (e2 gtD (eB lenD [eLc (iS (eV 0)) (.one 1) (tOrr (tNo (tV (e1 (isiD .tuple) (eV 1)))) (tV (e2 neD (eB lenD [eV 1]) (eC (.int 2))))) (eV 1) [1]]) (eC (.int 0))))) (sRet (eC (.bl false))) (sNext)) (sSeq (sIf (tV (e2 gtD (eB lenD [eLc (iS (eV 0)) (.one 1) (tOrr (tNo (tV (eB F__law_is_word [e2 ixD (eV 1) (eC (.int 0))]))) (tNo (tV (eB F__law_is_degree [e2 ixD (eV 1) (eC (.int 1))])))) (eV 1) [1]]) (eC (.int 0)))) (sRet (eC (.bl false))) (sNext)) (sRet (e2 eqD (eB lenD [eLc (iR [eC (.int 1), eB lenD [eV 0]]) (.one 2) (tV (e2 geD (e2 ixD (e2 ixD (eV 0) (e2 subD (eV 2) (eC (.int 1)))) (eC (.int 0))) (e2 ixD (e2 ixD (eV 0) (eV 2)) (eC (.int 0))))) (eV 2) [2]]) (eC (.int 0)))))
theorem sc__law_is_valuation : FnScope ["value", "row", "k"] ["value"] (defScope s__law_is_valuation) := ⟨rfl, rfl, rfl, by decide +kernel, rfl, by decide +kernel, by decide +kernel⟩
theorem ok__law_is_valuation (hw : cl.w = w) (T : Txt K mg) {k : Nat} {F__law_is_word : Fn} {k__law_is_word : Nat} (G__law_is_word : DefOk P w K mg base cl "_law_is_word" k__law_is_word 1 F__law_is_word) {F__law_is_degree : Fn} {k__law_is_degree : Nat} (G__law_is_degree : DefOk P w K mg base cl "_law_is_degree" k__law_is_degree 1 F__law_is_degree) (l__law_is_word : k__law_is_word ≤ k) (l__law_is_degree : k__law_is_degree ≤ k) : DefOk P w K mg base cl "_law_is_valuation" (k + 1) 1 (fnB 3 (m__law_is_valuation F__law_is_word F__law_is_degree)) := by
  obtain ⟨fd, Fd⟩ := T.d.def_ 41 (d := d__law_is_valuation) rfl
  have sc := sc__law_is_valuation
  have b_isinstance : mg "isinstance" = none := T.f _ (T.d.fact 48 (f := .free "isinstance") rfl)
  have b_tuple : mg "tuple" = none := T.f _ (T.d.fact 57 (f := .free "tuple") rfl)
  have b_len : mg "len" = none := T.f _ (T.d.fact 49 (f := .free "len") rfl)
  have b_range : mg "range" = none := T.f _ (T.d.fact 53 (f := .free "range") rfl)
  refine okD (N := ["value", "row", "k"]) (ps := ["value"]) Fd sc (T.g _ (T.d.fact 41 (f := .glo "_law_is_valuation") rfl)) (fun _ _ _ _ _ _ us hl => match us, hl with | [_], _ => rfl) fun cdv A outer s H E hr tk ow => ?_
  exact (pds_cons (pds_if (pdt_bool (pdw_or (pdt_not (pdt_val (pd_isi .tuple (by rfl) b_isinstance (by rfl) b_tuple boot_isinstance (by decide +kernel) (pd_v 0)))) (pdw_or1 (pdt_cmp od_gt (pd_B cd_len (by rfl) b_len boot_len (pda_cons (pd_lc (own := [("row", 1)]) (g := .one 1) rfl sc.nd (pdi_seq (pd_v 0)) (by kernel_rfl) (fun _ _ _ _ _ => (pg_name (i := 1) sc.nd rfl (Or.inl rfl))) (fun _ _ _ _ _ => (pts_one (pdt_bool (pdw_or (pdt_not (pdt_val (pd_isi .tuple (by rfl) b_isinstance (by rfl) b_tuple boot_isinstance (by decide +kernel) (pd_v 1)))) (pdw_or1 (pdt_cmp (od_ne hr.units) (pd_B cd_len (by rfl) b_len boot_len (pda_cons (pd_v 1) pda_nil)) pd_int (nomark _))))))) (fun _ _ _ _ _ => (pd_v 1))) pda_nil)) pd_int (nomark _))))) (pds_one (pds_ret pd_bl)) pds_nil) (pds_cons (pds_if (pdt_cmp od_gt (pd_B cd_len (by rfl) b_len boot_len (pda_cons (pd_lc (own := [("row", 1)]) (g := .one 1) rfl sc.nd (pdi_seq (pd_v 0)) (by kernel_rfl) (fun _ _ _ _ _ => (pg_name (i := 1) sc.nd rfl (Or.inl rfl))) (fun _ _ _ _ _ => (pts_one (pdt_bool (pdw_or (pdt_not (pdt_val (pd_call G__law_is_word hr takes0 (pda_cons (pd_ix (room100 hr) hw (pd_v 1) pd_int) pda_nil)))) (pdw_or1 (pdt_not (pdt_val (pd_call G__law_is_degree hr takes0 (pda_cons (pd_ix (room100 hr) hw (pd_v 1) pd_int) pda_nil))))))))) (fun _ _ _ _ _ => (pd_v 1))) pda_nil)) pd_int (nomark _)) (pds_one (pds_ret pd_bl)) pds_nil) (pds_one (pds_ret (pd_cmp (od_eq hr.units) (pd_B cd_len (by rfl) b_len boot_len (pda_cons (pd_lc (own := [("k", 2)]) (g := .one 2) rfl sc.nd (pdi_rng2 (by rfl) b_range pd_int (pd_B cd_len (by rfl) b_len boot_len (pda_cons (pd_v 0) pda_nil))) (by kernel_rfl) (fun _ _ _ _ _ => (pg_name (i := 2) sc.nd rfl (Or.inl rfl))) (fun _ _ _ _ _ => (pts_one (pdt_cmp od_ge (pd_ix (room100 hr) hw (pd_ix (room100 hr) hw (pd_v 0) (pd_op od_sub (pd_v 2) pd_int)) pd_int) (pd_ix (room100 hr) hw (pd_ix (room100 hr) hw (pd_v 0) (pd_v 2)) pd_int) (nomark _)))) (fun _ _ _ _ _ => (pd_v 2))) pda_nil)) pd_int (nomark _))))))
noncomputable def F__law_is_valuation : Fn := fnB 3 (m__law_is_valuation F__law_is_word F__law_is_degree)
theorem G__law_is_valuation (hw : cl.w = w) (T : Txt K mg) : DefOk P w K mg base cl "_law_is_valuation" 5 1 F__law_is_valuation := ok__law_is_valuation hw T (k := 4) (G__law_is_word hw T) (G__law_is_degree hw T) (by decide) (by decide)
noncomputable def m_law (F__law_pool : Fn) (F__law_valuation : Fn) (F__law_draw : Fn) (F__law_fraction : Fn) (F__law_formula : Fn) (F__law_theory : Fn) (F__law_same : Fn) (F_degree_of : Fn) (F_is_full : Fn) (F__law_degree : Fn) (F__law_full : Fn) (F__law_bent : Fn) (F_is_valuation : Fn) (F__law_is_valuation : Fn) : XS :=
  sSeq (sAsg (eB F__law_pool [eV 0]) (gN 1)) (sSeq (sAsg (eLst [eC (.str "a"), eC (.str "b"), eC (.str "c")]) (gN 2)) (sSeq (sAsg (eB F__law_valuation [eV 1, eV 2, e2 addD (eC (.int 1)) (eB F__law_draw [eV 1, eC (.int 60)])]) (gN 3)) (sSeq (sAsg (eB tupleD [eLc (iZ [eV 2, eLst [e2 addD (eC (.int 2)) (eB F__law_draw [eV 1, eC (.int 9)]), e2 addD (eC (.int 2)) (eB F__law_draw [eV 1, eC (.int 30)]), e2 addD (eC (.int 1)) (eB F__law_draw [eV 1, eC (.int 1000000)])]]) (.tup [11, 6]) (tAll) (eTup [eV 11, eB F__law_fraction [eB F__law_draw [eV 1, eV 6], eV 6]]) [11, 6]]) (gN 4)) (sSeq (sFor (iS (eLst [eV 3, eV 4])) (gN 5) (sFor (iR [eC (.int 4)]) (gN 6) (sSeq (sPar 7 8 (eB F__law_formula [eV 1, eV 2, eC (.int 3)]) (eB F__law_theory [eV 1, eV 2, eC (.int 2), eC (.int 1)])) (sIf (tNo (tV (eB F__law_same [eLst [eB F_degree_of [eV 5, eV 7], eB F_is_full [eV 5, eV 8]], eLst [eB F__law_degree [eV 5, eV 7], eB F__law_full [eV 5, eV 8]]]))) (sRet (eC (.bl false))) (sNext))))) (sSeq (sFor (iS (e2 addD (eLst [eV 3, eV 4, e1 revD (eV 3), e2 addD (eV 3) (eSl (eV 3) (pSo (e1 negD (eC (.int 1)))) (pNo)), eTup [eTup [eC (.str "a"), eTup [eC (.int 3), eC (.int 2)]]], eTup [eTup [eC (.str "a"), eTup [eC (.int 2), eC (.int 4)]]], eTup [eTup [eC (.str "or"), eTup [eC (.int 1), eC (.int 2)]]], eTup []]) (eB F__law_bent [eV 1, eV 3, eC (.int 10)]))) (gN 9) (sSeq (sAsg (eB reprD [eV 9]) (gN 10)) (sIf (tOrr (tNo (tV (eB F__law_same [eB F_is_valuation [eV 9], eB F__law_is_valuation [eV 9]]))) (tV (e2 neD (eB reprD [eV 9]) (eV 10)))) (sRet (eC (.bl false))) (sNext)))) (sRet (eAn (eB F_is_full [eV 3, eTup []]) (eAn (eNo (eB F_is_full [eV 3, eTup [eTup [eC (.str "none")]]])) (eB F_is_full [eV 3, eTup [eTup [eC (.str "all")], eTup [eC (.str "then"), eTup [eC (.str "name"), eC (.str "a")], eTup [eC (.str "name"), eC (.str "a")]]]])))))))))
theorem sc_law : FnScope ["script", "pool", "names", "one", "two", "valuation", "k", "formula", "theory", "value", "seen", "name"] ["script"] (defScope s_law) := ⟨rfl, rfl, rfl, by decide +kernel, rfl, by decide +kernel, by decide +kernel⟩
theorem ok_law (hw : cl.w = w) (T : Txt K mg) {fd : FuncData} {f : Addr} (Fd : FunD K "law" "law" (defArgs s_law) (defBody s_law) (defScope s_law) [] [] f fd) {k : Nat} (hR : Room (k + 1) callerA) {F__law_pool : Fn} {k__law_pool : Nat} (G__law_pool : DefOk P w K mg base cl "_law_pool" k__law_pool 1 F__law_pool) {F__law_valuation : Fn} {k__law_valuation : Nat} (G__law_valuation : DefOk P w K mg base cl "_law_valuation" k__law_valuation 3 F__law_valuation) {F__law_draw : Fn} {k__law_draw : Nat} (G__law_draw : DefOk P w K mg base cl "_law_draw" k__law_draw 2 F__law_draw) {F__law_fraction : Fn} {k__law_fraction : Nat} (G__law_fraction : DefOk P w K mg base cl "_law_fraction" k__law_fraction 2 F__law_fraction) {F__law_formula : Fn} {k__law_formula : Nat} (G__law_formula : DefOk P w K mg base cl "_law_formula" k__law_formula 3 F__law_formula) {F__law_theory : Fn} {k__law_theory : Nat} (G__law_theory : DefOk P w K mg base cl "_law_theory" k__law_theory 4 F__law_theory) {F__law_same : Fn} {k__law_same : Nat} (G__law_same : DefOk P w K mg base cl "_law_same" k__law_same 2 F__law_same) {F_degree_of : Fn} {k_degree_of : Nat} (G_degree_of : DefOk P w K mg base cl "degree_of" k_degree_of 2 F_degree_of) {F_is_full : Fn} {k_is_full : Nat} (G_is_full : DefOk P w K mg base cl "is_full" k_is_full 2 F_is_full) {F__law_degree : Fn} {k__law_degree : Nat} (G__law_degree : DefOk P w K mg base cl "_law_degree" k__law_degree 2 F__law_degree) {F__law_full : Fn} {k__law_full : Nat} (G__law_full : DefOk P w K mg base cl "_law_full" k__law_full 2 F__law_full) {F__law_bent : Fn} {k__law_bent : Nat} (G__law_bent : DefOk P w K mg base cl "_law_bent" k__law_bent 3 F__law_bent) {F_is_valuation : Fn} {k_is_valuation : Nat} (G_is_valuation : DefOk P w K mg base cl "is_valuation" k_is_valuation 1 F_is_valuation) {F__law_is_valuation : Fn} {k__law_is_valuation : Nat} (G__law_is_valuation : DefOk P w K mg base cl "_law_is_valuation" k__law_is_valuation 1 F__law_is_valuation) (l__law_pool : k__law_pool ≤ k) (l__law_valuation : k__law_valuation ≤ k) (l__law_draw : k__law_draw ≤ k) (l__law_fraction : k__law_fraction ≤ k) (l__law_formula : k__law_formula ≤ k) (l__law_theory : k__law_theory ≤ k) (l__law_same : k__law_same ≤ k) (l_degree_of : k_degree_of ≤ k) (l_is_full : k_is_full ≤ k) (l__law_degree : k__law_degree ≤ k) (l__law_full : k__law_full ≤ k) (l__law_bent : k__law_bent ≤ k) (l_is_valuation : k_is_valuation ≤ k) (l__law_is_valuation : k__law_is_valuation ≤ k) : LawOk P w K mg base f fd ["script"] (spD K cl 1 (fnB 12 (m_law F__law_pool F__law_valuation F__law_draw F__law_fraction F__law_formula F__law_theory F__law_same F_degree_of F_is_full F__law_degree F__law_full F__law_bent F_is_valuation F__law_is_valuation))) := by
  have sc := sc_law
  have b_zip : mg "zip" = none := T.f _ (T.d.fact 58 (f := .free "zip") rfl)
  have b_tuple : mg "tuple" = none := T.f _ (T.d.fact 57 (f := .free "tuple") rfl)
  have b_range : mg "range" = none := T.f _ (T.d.fact 53 (f := .free "range") rfl)
  have b_repr : mg "repr" = none := T.f _ (T.d.fact 54 (f := .free "repr") rfl)
  refine okLaw (N := ["script", "pool", "names", "one", "two", "valuation", "k", "formula", "theory", "value", "seen", "name"]) (ps := ["script"]) Fd sc hR fun cdv s H E hr hgd tk ow => ?_
  exact (pds_cons (pds_set 1 sc.nd (pd_call G__law_pool hr tk (pda_cons (pd_v 0) pda_nil))) (pds_cons (pds_set 2 sc.nd (pd_lst (pda_cons pd_str (pda_cons pd_str (pda_cons pd_str pda_nil))))) (pds_cons (pds_set 3 sc.nd (pd_call G__law_valuation hr tk (pda_cons (pd_v 1) (pda_cons (pd_v 2) (pda_cons (pd_op od_add pd_int (pd_call G__law_draw hr tk (pda_cons (pd_v 1) (pda_cons pd_int pda_nil)))) pda_nil))))) (pds_cons (pds_set 4 sc.nd (pd_Ty cd_tuple (by rfl) b_tuple boot_tuple (pda_cons (pd_lc (own := [("name", 11), ("k", 6)]) (g := .tup [11, 6]) rfl sc.nd (pdi_zip (by rfl) b_zip (pd_v 2) (pd_lst (pda_cons (pd_op od_add pd_int (pd_call G__law_draw hr tk (pda_cons (pd_v 1) (pda_cons pd_int pda_nil)))) (pda_cons (pd_op od_add pd_int (pd_call G__law_draw hr tk (pda_cons (pd_v 1) (pda_cons pd_int pda_nil)))) (pda_cons (pd_op od_add pd_int (pd_call G__law_draw hr tk (pda_cons (pd_v 1) (pda_cons pd_int pda_nil)))) pda_nil))))) (by kernel_rfl) (fun _ _ _ _ _ => (pg_tup rfl (pgs_cons (pg_name (i := 11) sc.nd rfl (Or.inl rfl)) (pgs_cons (pg_name (i := 6) sc.nd rfl (Or.inl rfl)) pgs_nil)))) (fun _ _ _ _ _ => pts_all) (fun _ _ _ _ _ => (pd_tup (pda_cons (pd_v 11) (pda_cons (pd_call G__law_fraction hr takes0 (pda_cons (pd_call G__law_draw hr takes0 (pda_cons (pd_v 1) (pda_cons (pd_v 6) pda_nil))) (pda_cons (pd_v 6) pda_nil))) pda_nil))))) pda_nil))) (pds_cons (pds_for ow rfl (pdi_seq (pd_lst (pda_cons (pd_v 3) (pda_cons (pd_v 4) pda_nil)))) (pdg_name 5 sc.nd) (pds_one (pds_for ow rfl (pdi_rng1 (by rfl) b_range pd_int) (pdg_name 6 sc.nd) (pds_cons (pds_par 7 8 rfl sc.nd (pd_call G__law_formula hr tk (pda_cons (pd_v 1) (pda_cons (pd_v 2) (pda_cons pd_int pda_nil)))) (pd_call G__law_theory hr tk (pda_cons (pd_v 1) (pda_cons (pd_v 2) (pda_cons pd_int (pda_cons pd_int pda_nil)))))) (pds_one (pds_if (pdt_not (pdt_val (pd_call G__law_same hr tk (pda_cons (pd_lst (pda_cons (pd_call G_degree_of hr tk (pda_cons (pd_v 5) (pda_cons (pd_v 7) pda_nil))) (pda_cons (pd_call G_is_full hr tk (pda_cons (pd_v 5) (pda_cons (pd_v 8) pda_nil))) pda_nil))) (pda_cons (pd_lst (pda_cons (pd_call G__law_degree hr tk (pda_cons (pd_v 5) (pda_cons (pd_v 7) pda_nil))) (pda_cons (pd_call G__law_full hr tk (pda_cons (pd_v 5) (pda_cons (pd_v 8) pda_nil))) pda_nil))) pda_nil))))) (pds_one (pds_ret pd_bl)) pds_nil)))))) (pds_cons (pds_for ow rfl (pdi_seq (pd_op od_add (pd_lst (pda_cons (pd_v 3) (pda_cons (pd_v 4) (pda_cons (pd_rev (pd_v 3)) (pda_cons (pd_op od_add (pd_v 3) (pd_sl (pd_v 3) (po_so (pd_neg pd_int)) po_no)) (pda_cons (pd_tup (pda_cons (pd_tup (pda_cons pd_str (pda_cons (pd_tup (pda_cons pd_int (pda_cons pd_int pda_nil))) pda_nil))) pda_nil)) (pda_cons (pd_tup (pda_cons (pd_tup (pda_cons pd_str (pda_cons (pd_tup (pda_cons pd_int (pda_cons pd_int pda_nil))) pda_nil))) pda_nil)) (pda_cons (pd_tup (pda_cons (pd_tup (pda_cons pd_str (pda_cons (pd_tup (pda_cons pd_int (pda_cons pd_int pda_nil))) pda_nil))) pda_nil)) (pda_cons (pd_tup pda_nil) pda_nil))))))))) (pd_call G__law_bent hr tk (pda_cons (pd_v 1) (pda_cons (pd_v 3) (pda_cons pd_int pda_nil)))))) (pdg_name 9 sc.nd) (pds_cons (pds_set 10 sc.nd (pd_B (cd_repr hgd (room100 hr)) (by rfl) b_repr boot_repr (pda_cons (pd_v 9) pda_nil))) (pds_one (pds_if (pdt_bool (pdw_or (pdt_not (pdt_val (pd_call G__law_same hr tk (pda_cons (pd_call G_is_valuation hr tk (pda_cons (pd_v 9) pda_nil)) (pda_cons (pd_call G__law_is_valuation hr tk (pda_cons (pd_v 9) pda_nil)) pda_nil))))) (pdw_or1 (pdt_cmp (od_ne hr.units) (pd_B (cd_repr hgd (room100 hr)) (by rfl) b_repr boot_repr (pda_cons (pd_v 9) pda_nil)) (pd_v 10) (nomark _))))) (pds_one (pds_ret pd_bl)) pds_nil)))) (pds_one (pds_ret (pd_and (pd_call G_is_full hr tk (pda_cons (pd_v 3) (pda_cons (pd_tup pda_nil) pda_nil))) (pd_and (pd_not (pd_call G_is_full hr tk (pda_cons (pd_v 3) (pda_cons (pd_tup (pda_cons (pd_tup (pda_cons pd_str pda_nil)) pda_nil)) pda_nil)))) (pd_one (pd_call G_is_full hr tk (pda_cons (pd_v 3) (pda_cons (pd_tup (pda_cons (pd_tup (pda_cons pd_str pda_nil)) (pda_cons (pd_tup (pda_cons pd_str (pda_cons (pd_tup (pda_cons pd_str (pda_cons pd_str pda_nil))) (pda_cons (pd_tup (pda_cons pd_str (pda_cons pd_str pda_nil))) pda_nil)))) pda_nil))) pda_nil))))))))))))))
noncomputable def F_law : Fn := fnB 12 (m_law F__law_pool F__law_valuation F__law_draw F__law_fraction F__law_formula F__law_theory F__law_same F_degree_of F_is_full F__law_degree F__law_full F__law_bent F_is_valuation F__law_is_valuation)
theorem GF_law (hw : cl.w = w) (T : Txt K mg) {fd : FuncData} {f : Addr} (Fd : FunD K "law" "law" (defArgs s_law) (defBody s_law) (defScope s_law) [] [] f fd) : LawOk P w K mg base f fd ["script"] (spD K cl 1 F_law) := ok_law hw T Fd (k := 13) ⟨rfl, by decide, by decide⟩ (G__law_pool hw T) (G__law_valuation hw T) (G__law_draw hw T) (G__law_fraction hw T) (G__law_formula hw T) (G__law_theory hw T) (G__law_same hw T) (G_degree_of hw T) (G_is_full hw T) (G__law_degree hw T) (G__law_full hw T) (G__law_bent hw T) (G_is_valuation hw T) (G__law_is_valuation hw T) (by decide) (by decide) (by decide) (by decide) (by decide) (by decide) (by decide) (by decide) (by decide) (by decide) (by decide) (by decide) (by decide) (by decide)
end
end Law
namespace Law
open PySem PySem.Spec PyProof.Rows L2
abbrev R : PySem.W.OpenRow := PySem.W.OpenLaw.row PySem.Challenge.rw_degreewise_k03_whole_degrees
abbrev hk : PySem.W.Hook := He.hookX 4 fa fn [] [] ex
def ob (s : PySem.W.SharedT) : He.AlX := He.obsX 4 fa fn [] [] ex (HandSHeadRun.getT s)
theorem ob_eq (s : PySem.W.SharedT) : ob s = hk.obs s.abs := He.obsX_eq (HandSHeadRun.getT_eq s)
def names0 : List PySem.Str := [("is_integer" : PySem.Str), ("common" : PySem.Str), ("fraction" : PySem.Str), ("ZERO" : PySem.Str), ("ONE" : PySem.Str), ("is_fraction" : PySem.Str), ("added" : PySem.Str), ("less" : PySem.Str), ("is_below" : PySem.Str), ("lesser" : PySem.Str), ("greater" : PySem.Str), ("is_degree" : PySem.Str), ("LETTERS" : PySem.Str), ("TAKEN" : PySem.Str), ("MOST_LETTERS" : PySem.Str), ("is_word" : PySem.Str), ("parts_below" : PySem.Str), ("parts_of" : PySem.Str), ("is_valuation" : PySem.Str), ("put_together" : PySem.Str), ("degree_of" : PySem.Str), ("is_full" : PySem.Str), ("_law_pool" : PySem.Str), ("_law_common" : PySem.Str), ("_law_fraction" : PySem.Str), ("_law_spread" : PySem.Str), ("_law_draw" : PySem.Str), ("_law_valuation" : PySem.Str), ("_law_pick" : PySem.Str), ("_law_formula" : PySem.Str), ("_law_theory" : PySem.Str), ("_law_same" : PySem.Str), ("_law_units" : PySem.Str), ("_law_degree" : PySem.Str), ("_law_full" : PySem.Str), ("_law_spots" : PySem.Str), ("_law_spot_put" : PySem.Str), ("_law_bent_spot" : PySem.Str), ("_law_spot" : PySem.Str), ("_law_odd_values" : PySem.Str)]
def names1 : List PySem.Str := [("_law_bent" : PySem.Str), ("_law_is_word" : PySem.Str), ("_law_is_integer" : PySem.Str), ("_law_is_row" : PySem.Str), ("_law_is_fraction" : PySem.Str), ("_law_is_degree" : PySem.Str), ("_law_is_valuation" : PySem.Str)]
def names : List PySem.Str := names0 ++ names1
theorem run (w : World) : HandSHeadRun.RunEq R (PySem.W.view R.prog [50]) hk ob 3000 names w := by
  intro os
  kernel_rfl
end Law
section
set_option maxHeartbeats 4000000
set_option maxRecDepth 20000
namespace Law
open PySem PySem.Spec PyProof.Rows L2 DL
theorem gcd_loop : ∀ (n : Nat) (a b : Nat) (M : MS), b ≤ n → sWh (tV (e2 gtD (eV 1) (eC (.int 0)))) (sPar 0 1 (eV 1) (e2 modD (eV 0) (eV 1))) [some (.int a), some (.int b)] M = some (.ok (.nx [some (.int (Nat.gcd a b)), some (.int 0)]), M) := by
  intro n
  induction n with
  | zero =>
    intro a b M h
    have hb : b = 0 := by omega
    subst hb
    rw [Nat.gcd_zero_right]
    exact sWh_false (by simp [tV, e2, eV, eC, gtD, cmpD, bOf])
  | succ n ih =>
    intro a b M h
    by_cases hb : b = 0
    · subst hb
      rw [Nat.gcd_zero_right]
      exact sWh_false (by simp [tV, e2, eV, eC, gtD, cmpD, bOf])
    · have hlt := Nat.mod_lt a (by omega : b > 0)
      refine sWh_true (M1 := M) (M2 := M) (ρ2 := [some (.int b), some (.int (a % b : Nat))]) (by simp [tV, e2, eV, eC, gtD, cmpD, bOf]; omega) ?_ ?_
      · simp [sPar, aL, e2, eV, modD]
        rw [if_pos (by omega)]
        rfl
      · rw [ih b (a % b) M (by omega), Nat.gcd_comm b, ← Nat.gcd_rec, Nat.gcd_comm]
theorem common_ok (a b : Nat) (M : MS) : F_common [.int a, .int b] M = some (.ok (.int (Nat.gcd a b)), M) := by
  simp only [F_common, m_common, fnB, sSeq, x_assoc, List.map, List.length, List.replicate, List.append_nil, Nat.sub_self]
  rw [Mo.bnd_of (gcd_loop b a b M (Nat.le_refl _))]
  simp [seqK, sRet, eV, fnK]

def gI (o u : Int) : Int := (Nat.gcd o.natAbs u.natAbs : Nat)
def mkF (o u : Int) : Int × Int := if u < 0 then (-o / gI o u, -u / gI o u) else (o / gI o u, u / gI o u)
def dF (p : Int × Int) : D := .tup [.int p.1, .int p.2]
theorem gI_pos {o u : Int} (h : u ≠ 0) : 0 < gI o u := by
  have : 0 < Nat.gcd o.natAbs u.natAbs := Nat.gcd_pos_of_pos_right _ (by omega)
  unfold gI; omega
theorem gI_le {o u : Int} (h : u ≠ 0) : (gI o u).natAbs ≤ u.natAbs := by
  have : Nat.gcd o.natAbs u.natAbs ≤ u.natAbs := Nat.gcd_le_right _ (by omega)
  unfold gI; omega
theorem common_int {a b : Int} (ha : 0 ≤ a) (hb : 0 ≤ b) (M : MS) : F_common [.int a, .int b] M = some (.ok (.int (gI a b)), M) := by
  obtain ⟨m, rfl⟩ := Int.eq_ofNat_of_zero_le ha
  obtain ⟨n, rfl⟩ := Int.eq_ofNat_of_zero_le hb
  rw [common_ok]; rfl
/-- small enough numbers -/
def Sm (n : Nat) (i : Int) : Prop := i.natAbs < 2 ^ n
theorem log2_lt {i : Int} {n : Nat} (h : Sm n i) (hn : 0 < n) : i.natAbs.log2 < n := PySem.Flt.log2_lt_of hn h
theorem divOk_of {j : Int} {n : Nat} (h0 : 0 < j) (h : Sm n j) (hn : 0 < n) (h9 : n ≤ 9000) : divOk j = true := by
  unfold divOk
  rw [decide_eq_true h0, decide_eq_true (Nat.lt_of_lt_of_le (log2_lt h hn) h9)]; rfl
theorem mulOk_of {i j : Int} {a b : Nat} (hi : Sm a i) (hj : Sm b j) (ha : 0 < a) (hb : 0 < b) (h : a + b ≤ 1000000) : mulOk i j = true := by
  unfold mulOk
  have := log2_lt hi ha
  have := log2_lt hj hb
  exact decide_eq_true (by omega)
theorem Sm.gI {n : Nat} {o u : Int} (h : Sm n u) (hu : u ≠ 0) : Sm n (gI o u) := Nat.lt_of_le_of_lt (gI_le hu) h
theorem fraction_ok {o u : Int} (hu : u ≠ 0) (hs : Sm 9000 u) (M : MS) : F_fraction [.int o, .int u] M = some (.ok (dF (mkF o u)), M) := by
  have hd := divOk_of (gI_pos (o := o) hu) (hs.gI hu) (by decide) (by decide)
  by_cases h : u < 0
  · have hc := common_int (a := (o.natAbs : Int)) (b := -u) (by omega) (by omega) M
    have eg : gI (o.natAbs : Int) (-u) = gI o u := by unfold gI; simp
    rw [eg] at hc
    simp [F_fraction, m_fraction, fnB, sSeq, sIf, tV, e2, eV, eC, ltD, cmpD, bOf, h, sPar, aL, e1, negD, Mo.bnd, Mo.ret, Mo.opt, sAsg, eB, absD, hc, gN, seqK, sNext, sRet, eTup, fdivD, hd, fnK, dF, mkF]
  · have hc := common_int (a := (o.natAbs : Int)) (b := u) (by omega) (by omega) M
    have eg : gI (o.natAbs : Int) u = gI o u := by unfold gI; simp
    rw [eg] at hc
    simp [F_fraction, m_fraction, fnB, sSeq, sIf, tV, e2, eV, eC, ltD, cmpD, bOf, h, sPar, aL, e1, negD, Mo.bnd, Mo.ret, Mo.opt, sAsg, eB, absD, hc, gN, seqK, sNext, sRet, eTup, fdivD, hd, fnK, dF, mkF]
theorem Sm.mul {a b : Nat} {i j : Int} (hi : Sm a i) (hj : Sm b j) : Sm (a + b) (i * j) := wide_lt hi hj
theorem Sm.add {a : Nat} {i j : Int} (hi : Sm a i) (hj : Sm a j) : Sm (a + 1) (i + j) := by
  unfold Sm at *
  have : 2 ^ (a + 1) = 2 ^ a + 2 ^ a := by rw [Nat.pow_succ]; omega
  omega
theorem Sm.mono {a b : Nat} {i : Int} (h : Sm a i) (l : a ≤ b) : Sm b i := Nat.lt_of_lt_of_le h (Nat.pow_le_pow_right (by decide) l)
theorem Sm.neg {a : Nat} {i : Int} (h : Sm a i) : Sm a (-i) := by unfold Sm at *; omega
theorem ix0 (a b : D) (M : MS) : ixD (.tup [a, b]) (.int 0) M = some (.ok a, M) := rfl
theorem ix1 (a b : D) (M : MS) : ixD (.tup [a, b]) (.int 1) M = some (.ok b, M) := rfl
theorem added_ok {a b c d : Int} (hb : b ≠ 0) (hd : d ≠ 0) (s1 : Sm 4000 a) (s2 : Sm 4000 b) (s3 : Sm 4000 c) (s4 : Sm 4000 d) (M : MS) :
    F_added [dF (a, b), dF (c, d)] M = some (.ok (dF (mkF (a * d + c * b) (b * d))), M) := by
  have m1 := mulOk_of s1 s4 (by decide) (by decide) (by decide)
  have m2 := mulOk_of s3 s2 (by decide) (by decide) (by decide)
  have m3 := mulOk_of s2 s4 (by decide) (by decide) (by decide)
  have hf := fraction_ok (o := a * d + c * b) (u := b * d) (Int.mul_ne_zero hb hd) ((s2.mul s4).mono (by decide)) M
  simp [F_added, m_added, fnB, sRet, eB, aL, e2, eV, eC, dF, Mo.bnd, Mo.ret, Mo.opt, ix0, ix1, mulD, addD, m1, m2, m3, fnK] at hf ⊢
  simp [hf, fnK, Mo.ret]

def isIntB : D → Bool
  | .int _ => true
  | _ => false
theorem is_integer_ok {d : D} (h : DL.plain d = true) (M : MS) : F_is_integer [d] M = some (.ok (.bl (isIntB d)), M) := by
  cases d <;> first | (simp [DL.plain] at h; done) | simp [F_is_integer, m_is_integer, fnB, sRet, eAn, eNo, e1, eV, Mo.bnd, Mo.ret, Mo.opt, bOf, fnK, isT, isIntB]
theorem law_is_integer_ok {d : D} (h : DL.plain d = true) (M : MS) : F__law_is_integer [d] M = some (.ok (.bl (isIntB d)), M) := by
  cases d <;> first | (simp [DL.plain] at h; done) | simp [F__law_is_integer, m__law_is_integer, fnB, sRet, eAn, eNo, e1, eV, Mo.bnd, Mo.ret, Mo.opt, bOf, fnK, isT, isIntB]
theorem blsOf_map {α : Type} {f : α → Bool} : ∀ xs : List α, blsOf (xs.map fun x => D.bl (f x)) = some (xs.map f)
  | [] => rfl
  | x :: xs => by simp [blsOf, blsOf_map xs]
def isFr : D → Bool
  | .tup [.int a, .int b] => decide (1 ≤ b) && decide (gI a b = 1)
  | _ => false
theorem plain_tup2 {a b : D} (h : DL.plain (.tup [a, b]) = true) : DL.plain a = true ∧ DL.plain b = true := by
  simp [DL.plain, plains] at h; exact h
theorem is_fraction_ok {d : D} (h : DL.plain d = true) (M : MS) : F_is_fraction [d] M = some (.ok (.bl (isFr d)), M) := by
  have h0 := isi_ok .tuple h M
  cases d with
  | tup xs =>
    by_cases hl : xs.length = 2
    · match xs, hl with
      | [a, b], hl2 =>
        clear hl hl2
        obtain ⟨ha, hb⟩ := plain_tup2 h
        have hm : loopC (.one 1) tAll (eB F_is_integer [eV 1]) (.frz [a, b]) [some (D.tup [a, b]), none] [a, b] M = some (.ok ([a, b].map fun x => D.bl (isIntB x)), M) := loopC_map (f := fun x => D.bl (isIntB x)) [a, b] fun x hx => by
          have hx' : DL.plain x = true := by
            rcases List.mem_cons.mp hx with e | hx
            · rw [e]; exact ha
            · rw [List.mem_singleton.mp hx]; exact hb
          simp [eB, aL, eV, Mo.bnd, Mo.ret, Mo.opt, is_integer_ok hx']
        have hlc := eLc_of (it := iS (eV 0)) (ρ := [some (D.tup [a, b]), none]) (own := [1]) (M1 := M) (M := M) (xs := [a, b]) (by simp [iS, eV, Mo.bnd, Mo.opt, srcD, Mo.ret]) rfl hm
        have hall : ∀ p q : Bool, allD [.lst [.bl p, .bl q]] M = some (.ok (.bl (p && q)), M) := fun p q => by simp [allD, lstOf, blsOf]
        simp [F_is_fraction, m_is_fraction, fnB, sSeq, sIf, tOrr, tNo, tV, e1, e2, eV, eC, eB, aL, Mo.bnd, Mo.ret, Mo.opt, bOf, isi_ok .tuple h, isT, lenD, seqOf, neD, hlc, hall, sRet, sNext, seqK, fnK]
        by_cases hi : isIntB a = true ∧ isIntB b = true
        · obtain ⟨h1, h2⟩ := hi
          obtain ⟨i, rfl⟩ : ∃ i, a = .int i := by cases a <;> first | exact ⟨_, rfl⟩ | cases h1
          obtain ⟨j, rfl⟩ : ∃ i, b = .int i := by cases b <;> first | exact ⟨_, rfl⟩ | cases h2
          by_cases hj : 1 ≤ j
          · have hc := common_int (a := (i.natAbs : Int)) (b := j) (by omega) (by omega) M
            have eg : gI (i.natAbs : Int) j = gI i j := by unfold gI; simp
            rw [eg] at hc
            simp [isIntB, Mo.ret, seqK, sRet, eAn, e2, eV, eC, Mo.bnd, Mo.opt, ix0, ix1, geD, cmpD, hj, bOf, eB, aL, absD, hc, eqD, fnK, isFr]
          · simp [isIntB, Mo.ret, seqK, sRet, eAn, e2, eV, eC, Mo.bnd, Mo.opt, ix0, ix1, geD, cmpD, hj, bOf, fnK, isFr]
        · have hfr : isFr (.tup [a, b]) = false := by
            cases a <;> cases b <;> first | rfl | (exact absurd ⟨rfl, rfl⟩ hi)
          rw [hfr]
          have hc : isIntB a = false ∨ isIntB b = false := by
            cases h1 : isIntB a with
            | false => exact .inl rfl
            | true =>
              cases h2 : isIntB b with
              | false => exact .inr rfl
              | true => exact absurd ⟨h1, h2⟩ hi
          rw [if_pos hc]
          rfl
    · have hl2 : ¬ ((xs.length : Int) = 2) := by omega
      have : isFr (.tup xs) = false := by
        unfold isFr
        split
        · rename_i e; simp at e; subst e; simp at hl
        · rfl
      rw [this]
      simp [F_is_fraction, m_is_fraction, fnB, sSeq, sIf, tOrr, tNo, tV, e1, e2, eV, eC, eB, aL, Mo.bnd, Mo.ret, Mo.opt, bOf, isi_ok .tuple h, isT, lenD, seqOf, neD, hl2, sRet, sNext, seqK, fnK]
  | _ => simp [F_is_fraction, m_is_fraction, fnB, sSeq, sIf, tOrr, tNo, tV, e1, e2, eV, eC, eB, aL, Mo.bnd, Mo.ret, Mo.opt, bOf, h0, isT, sRet, sNext, seqK, fnK, isFr]
theorem is_degree_ok {d : D} (h : DL.plain d = true) (M : MS) : F_is_degree [d] M = some (.ok (.bl (isFr d && match d with | .tup [.int a, .int b] => decide (0 ≤ a) && decide (a ≤ b) | _ => false)), M) := by
  have h0 := is_fraction_ok h M
  cases c : isFr d with
  | false =>
    rw [c] at h0
    simp [F_is_degree, m_is_degree, fnB, sRet, eAn, eB, aL, eV, Mo.bnd, Mo.ret, Mo.opt, h0, bOf, fnK]
  | true =>
    rw [c] at h0
    obtain ⟨i, j, rfl⟩ : ∃ i j, d = .tup [.int i, .int j] := by
      unfold isFr at c
      split at c
      · exact ⟨_, _, rfl⟩
      · cases c
    by_cases hi : 0 ≤ i
    · simp [F_is_degree, m_is_degree, fnB, sRet, eAn, eB, aL, eV, eC, e2, eCh, Mo.bnd, Mo.ret, Mo.opt, h0, bOf, fnK, ix0, ix1, leD, cmpD, hi]
    · simp [F_is_degree, m_is_degree, fnB, sRet, eAn, eB, aL, eV, eC, e2, eCh, Mo.bnd, Mo.ret, Mo.opt, h0, bOf, fnK, ix0, ix1, leD, cmpD, hi]

instance {n : Nat} {i : Int} : Decidable (Sm n i) := inferInstanceAs (Decidable (_ < _))
structure PoolS where
  xs : List Int
  at_ : Int
  cur : Int
  cnt : Int
  salt : Int
def poolL (q : PoolS) : MO := .lst [.lst (q.xs.map D.int), .int q.at_, .int q.cur, .int q.cnt, .int q.salt]
structure PoolOk (q : PoolS) (c : Nat) : Prop where
  len : q.xs.length ≤ 1000
  at0 : 0 ≤ q.at_
  cnt0 : 0 ≤ q.cnt
  cnt1 : q.cnt ≤ c
  salt0 : 0 ≤ q.salt
  salt1 : q.salt < 1000003
section
variable {M : MS} {p : Nat} {q : PoolS}
theorem ixP0 (h : M[p]? = some (poolL q)) : ixD (.obj p) (.int 0) M = some (.ok (.lst (q.xs.map D.int)), M) := by
  unfold ixD; simp only [seqOf, lstOf, h, poolL]; rfl
theorem ixP1 (h : M[p]? = some (poolL q)) : ixD (.obj p) (.int 1) M = some (.ok (.int q.at_), M) := by
  unfold ixD; simp only [seqOf, lstOf, h, poolL]; rfl
theorem ixP2 (h : M[p]? = some (poolL q)) : ixD (.obj p) (.int 2) M = some (.ok (.int q.cur), M) := by
  unfold ixD; simp only [seqOf, lstOf, h, poolL]; rfl
theorem ixP3 (h : M[p]? = some (poolL q)) : ixD (.obj p) (.int 3) M = some (.ok (.int q.cnt), M) := by
  unfold ixD; simp only [seqOf, lstOf, h, poolL]; rfl
theorem ixP4 (h : M[p]? = some (poolL q)) : ixD (.obj p) (.int 4) M = some (.ok (.int q.salt), M) := by
  unfold ixD; simp only [seqOf, lstOf, h, poolL]; rfl
theorem setP1 (h : M[p]? = some (poolL q)) (v : Int) : setD (.obj p) (.int 1) (.int v) M = some (.ok (), M.set p (poolL { q with at_ := v })) := by
  unfold setD; simp only [h, poolL]; rfl
theorem setP2 (h : M[p]? = some (poolL q)) (v : Int) : setD (.obj p) (.int 2) (.int v) M = some (.ok (), M.set p (poolL { q with cur := v })) := by
  unfold setD; simp only [h, poolL]; rfl
theorem setP3 (h : M[p]? = some (poolL q)) (v : Int) : setD (.obj p) (.int 3) (.int v) M = some (.ok (), M.set p (poolL { q with cnt := v })) := by
  unfold setD; simp only [h, poolL]; rfl
theorem poolSet (h : M[p]? = some (poolL q)) (q' : PoolS) : (M.set p (poolL q'))[p]? = some (poolL q') := by
  rw [List.getElem?_set_self (List.getElem?_eq_some_iff.mp h).1]
theorem ixL {ds : List D} {i : Int} {d : D} (h : atI ds i = some d) : ixD (.lst ds) (.int i) M = some (.ok d, M) := by
  unfold ixD; simp only [seqOf, lstOf, h]
end
theorem Sm.of_lt {n : Nat} {i : Int} (h0 : 0 ≤ i) (h : i < 2 ^ n) : Sm n i := by
  unfold Sm
  have : ((i.natAbs : Int)) < ((2 ^ n : Nat) : Int) := by rw [Int.natAbs_of_nonneg h0]; simpa using h
  exact_mod_cast this
theorem rng4 : rngL 0 4 = [.int 0, .int 1, .int 2, .int 3] := rfl
/-- the spread of a number: some number -/
theorem spread_ok (c : Int) (M : MS) : wp (F__law_spread [.int c]) M fun v M' => M' = M ∧ ∃ i, v = .int i := by
  have r0 : ((0:Int) < 2147483647) = True := by simp
  unfold F__law_spread m__law_spread
  simp -dsimp [r0, rng4, small62]
  refine wp_loopF (fun rest ρ M' => M' = M ∧ (∀ x ∈ rest, ∃ j : Int, x = .int j ∧ 0 ≤ j ∧ j ≤ 3) ∧ rest.length ≤ 4 ∧ ∃ b s k, ρ = [some (.int c), some (.int b), some (.int s), k] ∧ 0 ≤ b ∧ b < 2 ^ 31 ∧ Sm (32 * (5 - rest.length)) s) ?_ ?_ _ _ _ ?_
  · rintro ρ M' ⟨rfl, _, _, b, s, k, rfl, _⟩
    simp
  · rintro x rest ρ M' ⟨rfl, hr, hl, b, s, k, rfl, hb0, hb1, hs⟩
    obtain ⟨j, rfl, hj0, hj1⟩ := hr x List.mem_cons_self
    simp only [List.length_cons] at hl hs
    have m1 : mulOk b 48271 = true := mulOk_of (a := 31) (b := 31) (Sm.of_lt hb0 hb1) (by decide) (by decide) (by decide) (by decide)
    have m2 : mulOk s 2147483647 = true := mulOk_of (a := 32 * (5 - (rest.length + 1))) (b := 31) hs (by decide) (by omega) (by decide) (by omega)
    simp -dsimp [r0, m1, m2]
    refine ⟨fun x hx => hr x (List.mem_cons_of_mem _ hx), by omega, _, _, ⟨rfl, rfl⟩, Int.emod_nonneg _ (by decide), ?_, ?_⟩
    · have := Int.emod_lt_of_pos (b * 48271 + 12345 + j) (show (0:Int) < 2147483647 by decide)
      omega
    · have h1 : Sm (32 * (5 - (rest.length + 1)) + 31) (s * 2147483647) := hs.mul (by decide)
      have h2 : Sm 31 ((b * 48271 + 12345 + j) % 2147483647) := Sm.of_lt (Int.emod_nonneg _ (by decide)) (by
        have := Int.emod_lt_of_pos (b * 48271 + 12345 + j) (show (0:Int) < 2147483647 by decide)
        omega)
      have := Sm.add h1 (h2.mono (by omega))
      exact this.mono (by omega)
  · refine ⟨rfl, ?_, by decide, _, _, _, rfl, Int.emod_nonneg _ (by decide), ?_, by decide⟩
    · simp
    · have := Int.emod_lt_of_pos c (show (0:Int) < 2147483647 by decide)
      omega

section
variable {M : MS} {p : Nat} {q : PoolS} {Q : D → MS → Prop} {QU : Unit → MS → Prop}
theorem setSelf (hp : p < M.length) (mo : MO) : (M.set p mo)[p]? = some mo := List.getElem?_set_self hp
theorem w_ixP0 (hp : p < M.length) : wp (ixD (.obj p) (.int 0)) (M.set p (poolL q)) Q = Q (.lst (q.xs.map D.int)) (M.set p (poolL q)) := wp_of (ixP0 (setSelf hp _))
theorem w_ixP1 (hp : p < M.length) : wp (ixD (.obj p) (.int 1)) (M.set p (poolL q)) Q = Q (.int q.at_) (M.set p (poolL q)) := wp_of (ixP1 (setSelf hp _))
theorem w_ixP2 (hp : p < M.length) : wp (ixD (.obj p) (.int 2)) (M.set p (poolL q)) Q = Q (.int q.cur) (M.set p (poolL q)) := wp_of (ixP2 (setSelf hp _))
theorem w_ixP3 (hp : p < M.length) : wp (ixD (.obj p) (.int 3)) (M.set p (poolL q)) Q = Q (.int q.cnt) (M.set p (poolL q)) := wp_of (ixP3 (setSelf hp _))
theorem w_ixP4 (hp : p < M.length) : wp (ixD (.obj p) (.int 4)) (M.set p (poolL q)) Q = Q (.int q.salt) (M.set p (poolL q)) := wp_of (ixP4 (setSelf hp _))
theorem w_setP1 (hp : p < M.length) {v : Int} : wp (setD (.obj p) (.int 1) (.int v)) (M.set p (poolL q)) QU = QU () (M.set p (poolL { q with at_ := v })) := by
  rw [wp_of (setP1 (setSelf hp _) v), List.set_set]
theorem w_setP2 (hp : p < M.length) {v : Int} : wp (setD (.obj p) (.int 2) (.int v)) (M.set p (poolL q)) QU = QU () (M.set p (poolL { q with cur := v })) := by
  rw [wp_of (setP2 (setSelf hp _) v), List.set_set]
theorem w_setP3 (hp : p < M.length) {v : Int} : wp (setD (.obj p) (.int 3) (.int v)) (M.set p (poolL q)) QU = QU () (M.set p (poolL { q with cnt := v })) := by
  rw [wp_of (setP3 (setSelf hp _) v), List.set_set]
end
theorem draw_ok {M : MS} {p : Nat} {q : PoolS} {c : Nat} {many : Int} (hp : p < M.length) (ok : PoolOk q c) (hc : c ≤ 1000000) (h0 : 0 < many) (h1 : Sm 64 many) :
    wp (F__law_draw [.obj p, .int many]) (M.set p (poolL q)) fun r M' => ∃ v q', r = .int v ∧ 0 ≤ v ∧ v < many ∧ M' = M.set p (poolL q') ∧ PoolOk q' (c + 1) := by
  have dm : divOk many = true := divOk_of h0 h1 (by decide) (by decide)
  unfold F__law_draw m__law_draw
  rw [w_fnB, w_sSeq]
  refine wp_mono (Q := fun r M1 => ∃ q1 x, r = .nx [some (.obj p), some (.int many), x, none, none] ∧ M1 = M.set p (poolL q1) ∧ PoolOk q1 c) ?_ ?_
  · by_cases ca : q.cur ≤ 0
    · by_cases cb : q.at_ < q.xs.length
      · have hat := ok.at0
        obtain ⟨n, hn⟩ := Int.eq_ofNat_of_zero_le hat
        have hn2 : n < q.xs.length := by omega
        have hix : atI (q.xs.map D.int) q.at_ = some (.int q.xs[n]) := by
          unfold atI ixN
          rw [if_pos hat, if_pos (by simpa using cb)]
          simp [hn, hn2]
        by_cases cc : q.xs[n] < 1000000000000000000
        · simp -dsimp [w_ixP0 hp, w_ixP1 hp, w_ixP2 hp, w_setP1 hp, w_setP2 hp, ca, cb, hix, cc]
          refine wp_mono (spread_ok _ _) ?_
          rintro v M' ⟨rfl, i, rfl⟩
          simp -dsimp [w_setP2 hp]
          exact ⟨_, rfl, ⟨ok.len, by show 0 ≤ q.at_ + 1; omega, ok.cnt0, ok.cnt1, ok.salt0, ok.salt1⟩⟩
        · simp -dsimp [w_ixP0 hp, w_ixP1 hp, w_ixP2 hp, w_setP1 hp, w_setP2 hp, ca, cb, hix, cc]
          exact ⟨_, rfl, ⟨ok.len, by show 0 ≤ q.at_ + 1; omega, ok.cnt0, ok.cnt1, ok.salt0, ok.salt1⟩⟩
      · simp -dsimp [w_ixP0 hp, w_ixP1 hp, w_ixP2 hp, w_setP1 hp, w_setP2 hp, ca, cb]
        exact ⟨q, rfl, ok⟩
    · simp -dsimp [w_ixP0 hp, w_ixP1 hp, w_ixP2 hp, w_setP1 hp, w_setP2 hp, ca]
      exact ⟨q, rfl, ok⟩
  · rintro r M1 ⟨q1, x, rfl, rfl, ok1⟩
    have hcnt := ok1.cnt1
    have hcnt0 := ok1.cnt0
    have hs0 := ok1.salt0
    have hs1 := ok1.salt1
    have m1 : mulOk q1.salt 48271 = true := mulOk_of (a := 31) (b := 31) (Sm.of_lt hs0 (by omega)) (by decide) (by decide) (by decide) (by decide)
    have m2 : mulOk (q1.cnt + 1) 69621 = true := mulOk_of (a := 31) (b := 31) (Sm.of_lt (by omega) (by omega)) (by decide) (by decide) (by decide) (by decide)
    have ok2 : ∀ u, PoolOk { q1 with cnt := q1.cnt + 1, cur := u } (c + 1) := fun u => ⟨ok1.len, ok1.at0, by show 0 ≤ q1.cnt + 1; omega, by show q1.cnt + 1 ≤ _; omega, hs0, hs1⟩
    by_cases ca : q1.cur ≤ 0
    · have r0 : ((0:Int) < 2147483647) = True := by simp
      have r1 : ((0:Int) < 2147483629) = True := by simp
      have r2 : divOk 5 = true := by decide
      have m3 : mulOk ((q1.salt * 48271 + (q1.cnt + 1) * 69621 + 1) % 2147483647) 16807 = true := by
        have a := Int.emod_nonneg (q1.salt * 48271 + (q1.cnt + 1) * 69621 + 1) (show (2147483647 : Int) ≠ 0 by decide)
        have b := Int.emod_lt_of_pos (q1.salt * 48271 + (q1.cnt + 1) * 69621 + 1) (show (0 : Int) < 2147483647 by decide)
        exact mulOk_of (a := 31) (b := 31) (Sm.of_lt a (by omega)) (by decide) (by decide) (by decide) (by decide)
      simp -dsimp [w_ixP2 hp, w_ixP3 hp, w_ixP4 hp, w_setP3 hp, ca, m1, m2, m3, r0, r1, r2, h0]
      exact ⟨Int.emod_nonneg _ (by omega), Int.emod_lt_of_pos _ h0, _, rfl, ok2 _⟩
    · simp -dsimp [w_ixP2 hp, w_ixP3 hp, w_ixP4 hp, w_setP3 hp, w_setP2 hp, ca, dm, h0]
      exact ⟨Int.emod_nonneg _ (by omega), Int.emod_lt_of_pos _ h0, _, rfl, ok2 _⟩
/-- a pick: one of the items -/
theorem pick_ok {M : MS} {p : Nat} {q : PoolS} {c : Nat} {items : List D} (hp : p < M.length) (ok : PoolOk q c) (hc : c ≤ 1000000) (h0 : items ≠ []) (h1 : items.length ≤ 1000000) :
    wp (F__law_pick [.obj p, .lst items]) (M.set p (poolL q)) fun r M' => ∃ q', r ∈ items ∧ M' = M.set p (poolL q') ∧ PoolOk q' (c + 1) := by
  have hl : 0 < items.length := List.length_pos_iff.mpr h0
  unfold F__law_pick m__law_pick
  simp -dsimp
  refine wp_mono (draw_ok hp ok hc (by omega) (Sm.of_lt (by omega) (by omega))) ?_
  rintro r M' ⟨v, q', rfl, hv0, hv1, rfl, ok'⟩
  obtain ⟨n, rfl⟩ := Int.eq_ofNat_of_zero_le hv0
  have hn : n < items.length := by omega
  have hix : atI items (n : Int) = some items[n] := by
    unfold atI ixN
    rw [if_pos hv0, if_pos hv1]
    simp [hn]
  simp -dsimp [hix]
  exact ⟨q', rfl, ok'⟩

theorem law_common_ok {a b : Int} (ha : 0 ≤ a) (hb : 0 ≤ b) (M : MS) : F__law_common [.int a, .int b] M = some (.ok (.int (gI a b)), M) := by
  refine wp_val ?_
  unfold F__law_common m__law_common
  rw [w_fnB, w_sSeq]
  obtain ⟨m, rfl⟩ := Int.eq_ofNat_of_zero_le ha
  obtain ⟨n, rfl⟩ := Int.eq_ofNat_of_zero_le hb
  refine wp_mono (wp_sWh (QF := fun r M1 => M1 = M ∧ ∃ z, r = .nx [some (.int (gI m n)), z]) (fun k ρ M1 => M1 = M ∧ ∃ x y : Nat, ρ = [some (.int x), some (.int y)] ∧ y = k ∧ Nat.gcd x y = Nat.gcd m n) ?_ n _ M ⟨rfl, m, n, rfl, rfl, rfl⟩) ?_
  · rintro k ρ M1 ⟨rfl, x, y, rfl, rfl, hg⟩
    by_cases hy : y = 0
    · subst hy
      simp -dsimp
      rw [Nat.gcd_zero_right] at hg
      exact congrArg Int.ofNat hg
    · have hp : 0 < y := by omega
      have hz : ((0 : Int) < (y : Int)) = True := by simp; omega
      simp -dsimp [hz, hp]
      refine ⟨x % y, Nat.mod_lt _ hp, y, x % y, ⟨rfl, rfl⟩, rfl, ?_⟩
      rw [Nat.gcd_comm y, ← Nat.gcd_rec, Nat.gcd_comm, hg]
  · rintro r M1 ⟨rfl, z, rfl⟩
    simp -dsimp
theorem gI_dvd1 (o u : Int) : gI o u ∣ o := by
  unfold gI
  have := Nat.gcd_dvd_left o.natAbs u.natAbs
  exact Int.ofNat_dvd_left.mpr this
theorem gI_dvd2 (o u : Int) : gI o u ∣ u := by
  unfold gI
  have := Nat.gcd_dvd_right o.natAbs u.natAbs
  exact Int.ofNat_dvd_left.mpr this
theorem law_fraction_ok {o u : Int} (hu : u ≠ 0) (hs : Sm 9000 u) (M : MS) : F__law_fraction [.int o, .int u] M = some (.ok (dF (mkF o u)), M) := by
  have hd := divOk_of (gI_pos (o := o) hu) (hs.gI hu) (by decide) (by decide)
  have hc := law_common_ok (a := (o.natAbs : Int)) (b := (u.natAbs : Int)) (by omega) (by omega) M
  have eg : gI (o.natAbs : Int) (u.natAbs : Int) = gI o u := by unfold gI; simp
  rw [eg] at hc
  refine wp_val ?_
  unfold F__law_fraction m__law_fraction
  by_cases h : 0 < u
  · have h2 : ¬ u < 0 := by omega
    simp -dsimp [wp_of hc, hd, h, dF, mkF, h2]
  · have h2 : u < 0 := by omega
    simp -dsimp [wp_of hc, hd, h, dF, mkF, h2]
    exact ⟨(Int.neg_ediv_of_dvd (gI_dvd1 o u)).symm, (Int.neg_ediv_of_dvd (gI_dvd2 o u)).symm⟩
section
variable {a b c d : Int} {M : MS}
theorem less_ok (hb : b ≠ 0) (hd : d ≠ 0) (s1 : Sm 4000 a) (s2 : Sm 4000 b) (s3 : Sm 4000 c) (s4 : Sm 4000 d) :
    F_less [dF (a, b), dF (c, d)] M = some (.ok (dF (mkF (a * d - c * b) (b * d))), M) := by
  have h := added_ok hb hd s1 s2 s3.neg s4 M
  refine wp_val ?_
  unfold F_less m_less
  simp -dsimp [dF] at h ⊢
  simp -dsimp [wp_of h]
  rw [Int.neg_mul, ← Int.sub_eq_add_neg]
  rfl
theorem is_below_ok (s1 : Sm 4000 a) (s2 : Sm 4000 b) (s3 : Sm 4000 c) (s4 : Sm 4000 d) :
    F_is_below [dF (a, b), dF (c, d)] M = some (.ok (.bl (decide (a * d < c * b))), M) := by
  have m1 := mulOk_of s1 s4 (by decide) (by decide) (by decide)
  have m2 := mulOk_of s3 s2 (by decide) (by decide) (by decide)
  refine wp_val ?_
  unfold F_is_below m_is_below
  simp -dsimp [dF, m1, m2]
end
theorem pool_ok {ns : List Int} (hl : ns.length ≤ 1000) (M : MS) : wp (F__law_pool [.scr ns]) M fun r M' => ∃ q, r = .obj M.length ∧ M' = M ++ [poolL q] ∧ PoolOk q 0 := by
  unfold F__law_pool m__law_pool
  have r0 : ((0:Int) < 1000003) = True := by simp
  simp -dsimp
  refine wp_loopF (fun rest ρ M' => M' = M ∧ (∀ x ∈ rest, ∃ j : Int, x = .int j) ∧ ∃ s k, ρ = [some (.scr ns), some (.int s), k] ∧ 0 ≤ s ∧ s < 1000003) ?_ ?_ _ _ _ ?_
  · rintro ρ M' ⟨rfl, _, s, k, rfl, h0, h1⟩
    simp -dsimp
    exact ⟨⟨ns, 0, 0, 0, s⟩, rfl, ⟨hl, Int.le_refl _, Int.le_refl _, Int.le_refl _, h0, h1⟩⟩
  · rintro x rest ρ M' ⟨rfl, hr, s, k, rfl, h0, h1⟩
    obtain ⟨j, rfl⟩ := hr x List.mem_cons_self
    have m1 : mulOk s 31 = true := mulOk_of (a := 31) (b := 31) (Sm.of_lt h0 (by omega)) (by decide) (by decide) (by decide) (by decide)
    simp -dsimp [r0, m1]
    exact ⟨fun x hx => hr x (List.mem_cons_of_mem _ hx), Int.emod_nonneg _ (by decide), Int.emod_lt_of_pos _ (by decide)⟩
  · refine ⟨rfl, ?_, _, _, rfl, by decide, by decide⟩
    intro x hx
    obtain ⟨j, _, rfl⟩ := List.mem_map.mp hx
    exact ⟨j, rfl⟩

theorem rng_get {n i : Nat} {x : D} (h : ((List.range n).map fun (j : Nat) => D.int j)[i]? = some x) : i < n ∧ x = .int i := by
  obtain ⟨hl, e⟩ := List.getElem?_eq_some_iff.mp h
  simp at hl e
  exact ⟨hl, e.symm⟩
/-- values that compare with themselves -/
def okS : Nat → D → Bool
  | 0, _ => false
  | k + 1, .tup xs => decide (xs.length ≤ 1000000) && xs.all (okS k)
  | k + 1, .lst xs => decide (xs.length ≤ 1000000) && xs.all (okS k)
  | _ + 1, .non => true
  | _ + 1, .bl _ => true
  | _ + 1, .int _ => true
  | _ + 1, .str _ => true
  | _ + 1, _ => false
theorem same_ok : ∀ (k : Nat) (d : D) (M : MS), okS k d = true → R__law_same k [d, d] M = some (.ok (.bl true), M)
  | 0, _, _, h => nomatch h
  | k + 1, d, M, h => by
    refine wp_val ?_
    unfold R__law_same m__law_same
    cases d with
    | tup xs =>
      simp only [okS, Bool.and_eq_true, decide_eq_true_eq, List.all_eq_true] at h
      simp -dsimp [isT, small62_nat h.1, fits_of h.1]
      refine wp_comI (fun i acc M' => M' = M ∧ acc = []) ?_ ⟨rfl, rfl⟩ ?_
      · rintro i x acc M' hx ⟨rfl, rfl⟩
        obtain ⟨hi, rfl⟩ := rng_get hx
        simp -dsimp [hi]
        refine wp_call (same_ok k xs[i] _ (h.2 _ (List.getElem_mem _))) ?_
        simp
      · rintro ys M' ⟨rfl, rfl⟩
        simp
    | lst xs =>
      simp only [okS, Bool.and_eq_true, decide_eq_true_eq, List.all_eq_true] at h
      simp -dsimp [isT, small62_nat h.1, fits_of h.1]
      refine wp_comI (fun i acc M' => M' = M ∧ acc = []) ?_ ⟨rfl, rfl⟩ ?_
      · rintro i x acc M' hx ⟨rfl, rfl⟩
        obtain ⟨hi, rfl⟩ := rng_get hx
        simp -dsimp [hi]
        refine wp_call (same_ok k xs[i] _ (h.2 _ (List.getElem_mem _))) ?_
        simp
      · rintro ys M' ⟨rfl, rfl⟩
        simp
    | non => simp -dsimp [isT, isNonB]
    | bl b => simp -dsimp [isT, isNonB]
    | int b => simp -dsimp [isT, isNonB]
    | str b => simp -dsimp [isT, isNonB]
    | _ => cases h
/-! ### papers -/
/-- a paper: tuples, numbers, texts, nothing; not too big -/
def okB : Nat → D → Bool
  | 0, _ => false
  | k + 1, .tup xs => decide (xs.length ≤ 1000) && xs.all (okB k)
  | _ + 1, .non => true
  | _ + 1, .int i => decide (i.natAbs.log2 < 1900)
  | _ + 1, .str z => true
  | _ + 1, _ => false
def szB : Nat → D → Nat
  | k + 1, .tup xs => 1 + (xs.map (szB k)).sum
  | _, _ => 1
def getB : D → List Nat → Option D
  | d, [] => some d
  | .tup xs, n :: ns => xs[n]?.bind fun d => getB d ns
  | _, _ :: _ => none
def pathD (ns : List Nat) : List D := ns.map fun (n : Nat) => D.int n
theorem okB_plain : ∀ (k : Nat) (d : D), okB k d = true → DL.plain d = true
  | 0, _, h => nomatch h
  | k + 1, .tup xs, h => by
    simp only [okB, Bool.and_eq_true, List.all_eq_true] at h
    exact plains_all.mpr fun d hd => okB_plain k d (h.2 d hd)
  | _ + 1, .non, _ => rfl
  | _ + 1, .int _, _ => rfl
  | _ + 1, .str _, _ => rfl
theorem okB_get : ∀ (ns : List Nat) (k : Nat) (d e : D), okB k d = true → getB d ns = some e → ∃ j, okB j e = true
  | [], k, d, e, h, g => by cases g; exact ⟨k, h⟩
  | n :: ns, k + 1, .tup xs, e, h, g => by
    simp only [okB, Bool.and_eq_true, List.all_eq_true] at h
    unfold getB at g
    cases hx : xs[n]? with
    | none => rw [hx] at g; cases g
    | some x =>
      rw [hx] at g
      exact okB_get ns k x e (h.2 x (List.mem_of_getElem? hx)) g
  | _ :: _, _, .non, _, _, g => nomatch g
  | _ :: _, _, .int _, _, _, g => nomatch g
  | _ :: _, _, .str _, _, _, g => nomatch g
  | _ :: _, _, .bl _, _, _, g => nomatch g
  | _ :: _, _, .lst _, _, _, g => nomatch g
  | _ :: _, _, .emp, _, _, g => nomatch g
  | _ :: _, _, .obj _, _, _, g => nomatch g
  | _ :: _, _, .scr _, _, _, g => nomatch g
  | _ :: _, 0, .tup _, _, h, _ => nomatch h
def szs (k : Nat) (xs : List D) : Nat := (xs.map (szB k)).sum
theorem szs_cons {k : Nat} {x : D} {xs : List D} : szs k (x :: xs) = szB k x + szs k xs := rfl
theorem sum_take {k : Nat} : ∀ (xs : List D) (i : Nat) (hi : i < xs.length), szs k (xs.take (i + 1)) = szs k (xs.take i) + szB k xs[i]
  | x :: xs, 0, _ => by simp [szs]
  | x :: xs, i + 1, hi => by
    have := sum_take (k := k) xs i (by simpa using hi)
    simp only [List.take_succ_cons, szs_cons, List.getElem_cons_succ, this]
    omega
theorem sum_take_le {k : Nat} : ∀ (xs : List D) (i : Nat), szs k (xs.take i) ≤ szs k xs
  | [], i => by simp
  | x :: xs, 0 => by simp [szs]
  | x :: xs, i + 1 => by
    have := sum_take_le (k := k) xs i
    simp only [List.take_succ_cons, szs_cons]
    omega
/-- a place -/
def okP (d : D) (k : Nat) (path : List D) (q : D) : Prop := ∃ ns e, q = .lst (path ++ pathD ns) ∧ getB d ns = some e ∧ ns.length < k
/-- the places of a value -/
theorem spots_ok : ∀ (k : Nat) (d : D) (path : List D) (M : MS), okB k d = true → szB k d ≤ 100000 → path.length + k ≤ 1000 →
    wp (R__law_spots k [d, .lst path]) M fun r M' => M' = M ∧ ∃ ps, r = .lst ps ∧ ps ≠ [] ∧ ps.length ≤ szB k d ∧ ∀ q ∈ ps, okP d k path q
  | 0, _, _, _, h, _, _ => nomatch h
  | k + 1, d, path, M, h, hz, hp => by
    unfold R__law_spots m__law_spots
    have hpl := okB_plain _ _ h
    cases d with
    | tup xs =>
      simp only [okB, Bool.and_eq_true, decide_eq_true_eq, List.all_eq_true] at h
      have hl : xs.length ≤ 1000000 := by omega
      simp -dsimp [isT, small62_nat hl]
      refine wp_forI (fun i ρ M' => M' = M ∧ ∃ ps z, ρ = [some (.tup xs), some (.lst path), some (.lst ps), z] ∧ ps ≠ [] ∧ ps.length ≤ 1 + szs k (xs.take i) ∧ ∀ q ∈ ps, okP (.tup xs) (k + 1) path q) ?_ ?_ ⟨rfl, [.lst path], _, rfl, by simp, by simp [szs], ?_⟩
      · rintro ρ M' ⟨rfl, ps, z, rfl, h1, h2, h3⟩
        simp -dsimp
        refine ⟨h1, ?_, h3⟩
        rw [List.length_map, List.length_range, List.take_length] at h2
        exact h2
      · rintro i x ρ M' hx ⟨rfl, ps, z, rfl, h1, h2, h3⟩
        obtain ⟨hi, rfl⟩ := rng_get hx
        have hf : fits (path.length + 1) = true := fits_of (by omega)
        have hs : szB (k + 1) (.tup xs) = 1 + szs k xs := rfl
        have hsp := sum_take (k := k) xs i hi
        have hsq := sum_take_le (k := k) xs (i + 1)
        simp -dsimp [hi, hf]
        refine wp_mono (spots_ok k xs[i] (path ++ [.int i]) M' (h.2 _ (List.getElem_mem _)) (by omega) (by simp; omega)) ?_
        rintro r M2 ⟨rfl, qs, rfl, g1, g2, g3⟩
        have hf2 : fits (ps.length + qs.length) = true := fits_of (by omega)
        simp -dsimp [hf2]
        refine ⟨fun z => absurd z h1, ?_, ?_⟩
        · omega
        · rintro q (hq | hq)
          · exact h3 q hq
          · obtain ⟨ns, e, rfl, hg, hn⟩ := g3 q hq
            refine ⟨i :: ns, e, by simp [pathD], ?_, by simp; omega⟩
            show xs[i]?.bind _ = _
            rw [List.getElem?_eq_getElem hi]
            exact hg
      · intro q hq
        simp at hq
        subst hq
        exact ⟨[], _, by simp [pathD], rfl, by simp⟩
    | non => simp -dsimp [isT]; exact ⟨by simp [szB], ⟨[], _, by simp [pathD], rfl, by simp⟩⟩
    | int b => simp -dsimp [isT]; exact ⟨by simp [szB], ⟨[], _, by simp [pathD], rfl, by simp⟩⟩
    | str b => simp -dsimp [isT]; exact ⟨by simp [szB], ⟨[], _, by simp [pathD], rfl, by simp⟩⟩
    | _ => cases h

theorem cut_sub {α : Type} {xs : List α} {l h : Option Int} {x : α} (hx : x ∈ cut xs l h) : x ∈ xs := by
  unfold cut at hx
  exact List.mem_of_mem_drop (List.mem_of_mem_take hx)
theorem cut_len {α : Type} (xs : List α) (l h : Option Int) : (cut xs l h).length ≤ xs.length := by
  unfold cut
  rw [List.length_take, List.length_drop]
  omega
theorem cut_plain {xs : List D} {l h : Option Int} (p : plains xs = true) : plains (cut xs l h) = true := plains_all.mpr fun d hd => plains_all.mp p d (cut_sub hd)
@[simp] theorem cut_tail {α : Type} {x : α} {xs : List α} : cut (x :: xs) (some 1) none = xs := by
  unfold cut
  simp
theorem cut_pre {α : Type} {xs : List α} {n : Nat} (h : n ≤ xs.length) : cut xs none (some (n : Int)) = xs.take n := by
  unfold cut
  simp
theorem cut_post {α : Type} {xs : List α} {n : Nat} (h : n ≤ xs.length) : cut xs (some (n : Int)) none = xs.drop n := by
  unfold cut
  simp
  rw [Nat.min_eq_left h]
  exact List.take_of_length_le (by simp)
theorem plain_tup {xs : List D} : DL.plain (.tup xs) = plains xs := by unfold DL.plain; rfl
theorem plain_lst {xs : List D} : DL.plain (.lst xs) = plains xs := by unfold DL.plain; rfl
@[simp] theorem plains_nil : plains [] = true := rfl
@[simp] theorem plains_cons {d : D} {ds : List D} : plains (d :: ds) = (DL.plain d && plains ds) := rfl
@[simp] theorem plains_append {d ds : List D} : plains (d ++ ds) = (plains d && plains ds) := plains_app
/-- an item put at a place -/
theorem put_ok : ∀ (ns : List Nat) (k : Nat) (j : Nat) (d e item : D) (M : MS), getB d ns = some e → ns.length < k → okB j d = true → DL.plain item = true →
    wp (R__law_spot_put k [d, .lst (pathD ns), item]) M fun r M' => M' = M ∧ DL.plain r = true
  | [], k + 1, j, d, e, item, M, hg, hk, hd, hi => by
    unfold R__law_spot_put m__law_spot_put
    simp -dsimp [pathD, hi]
  | n :: ns, k + 1, j, d, e, item, M, hg, hk, hd, hi => by
    unfold R__law_spot_put m__law_spot_put
    cases d with
    | tup xs =>
      cases j with
      | zero => cases hd
      | succ j =>
        have hpl := okB_plain _ _ hd
        rw [plain_tup] at hpl
        simp only [okB, Bool.and_eq_true, decide_eq_true_eq, List.all_eq_true] at hd
        unfold getB at hg
        cases hx : xs[n]? with
        | none => rw [hx] at hg; cases hg
        | some x =>
          rw [hx] at hg
          have hlt := (List.getElem?_eq_some_iff.mp hx).1
          have c1 : cut xs none (some (n : Int)) = xs.take n := cut_pre (by omega)
          have c2 : cut xs (some ((n : Int) + 1)) none = xs.drop (n + 1) := cut_post (xs := xs) (n := n + 1) (by omega)
          have hne : ¬ ((ns.length : Int) + 1 = 0) := by omega
          have hf1 : fits (min n xs.length + 1) = true := fits_of (by omega)
          have hf2 : fits (min n xs.length + 1 + (xs.length - (n + 1))) = true := fits_of (by omega)
          have p1 : plains (xs.take n) = true := plains_all.mpr fun d hd => plains_all.mp hpl d (List.mem_of_mem_take hd)
          have p2 : plains (xs.drop (n + 1)) = true := plains_all.mpr fun d hd => plains_all.mp hpl d (List.mem_of_mem_drop hd)
          simp -dsimp [pathD, hne, c1, hx]
          refine wp_mono (put_ok ns k j x e item M hg (by simpa using hk) (hd.2 x (List.mem_of_getElem? hx)) hi) ?_
          rintro r M' ⟨rfl, hr⟩
          have hcl : (cut xs none (some (n : Int))).length = min n xs.length := by rw [c1]; simp
          simp -dsimp [pathD, c1, c2, hf1, hf2, plain_tup, p1, p2, hr]
    | _ => cases hg
  | _ :: _, 0, _, _, _, _, _, _, hk, _, _ => absurd hk (Nat.not_lt_zero _)
  | [], 0, _, _, _, _, _, _, hk, _, _ => absurd hk (Nat.not_lt_zero _)
/-- the item at a place -/
theorem spot_ok {d e : D} {ns : List Nat} (M : MS) (h : getB d ns = some e) : wp (F__law_spot [d, .lst (pathD ns)]) M fun r M' => M' = M ∧ r = e := by
  unfold F__law_spot m__law_spot
  simp -dsimp
  refine wp_forI (fun i ρ M' => M' = M ∧ ∃ x z, ρ = [some x, some (.lst (pathD ns)), z] ∧ getB x (ns.drop i) = some e) ?_ ?_ ⟨rfl, d, _, rfl, h⟩
  · rintro ρ M' ⟨rfl, x, z, rfl, hx⟩
    simp [pathD, getB] at hx
    simp -dsimp [hx]
  · rintro i x ρ M' hx ⟨rfl, y, z, rfl, hy⟩
    obtain ⟨hi, rfl⟩ : i < ns.length ∧ x = .int (ns[i]?.getD 0 : Nat) := by
      obtain ⟨hl, e⟩ := List.getElem?_eq_some_iff.mp hx
      simp [pathD] at hl e
      exact ⟨hl, by rw [List.getElem?_eq_getElem hl]; exact e.symm⟩
    rw [List.drop_eq_getElem_cons hi] at hy
    cases y with
    | tup xs =>
      unfold getB at hy
      cases hz : xs[ns[i]]? with
      | none => rw [hz] at hy; cases hy
      | some u =>
        rw [hz] at hy
        simp -dsimp [hi, hz]
        exact hy
    | _ => cases hy
theorem odd_ok (M : MS) : wp (F__law_odd_values []) M fun r M' => M' = M ∧ ∃ xs, r = .lst xs ∧ plains xs = true ∧ xs.length ≤ 100 := by
  unfold F__law_odd_values m__law_odd_values
  simp -dsimp [plain_tup, plain_lst]
  simp [DL.plain]
theorem bent_spot_ok {M : MS} {p j : Nat} {q : PoolS} {c : Nat} {d : D} (hp : p < M.length) (ok : PoolOk q c) (hc : c ≤ 1000000) (hd : okB j d = true) :
    wp (F__law_bent_spot [.obj p, d]) (M.set p (poolL q)) fun r M' => ∃ q', DL.plain r = true ∧ M' = M.set p (poolL q') ∧ PoolOk q' (c + 1) := by
  have hpl := okB_plain _ _ hd
  unfold F__law_bent_spot m__law_bent_spot
  have fin : ∀ items : List D, items ≠ [] → plains items = true → items.length ≤ 1000000 → wp (F__law_pick [.obj p, .lst items]) (M.set p (poolL q)) fun r M' => ∃ q', DL.plain r = true ∧ M' = M.set p (poolL q') ∧ PoolOk q' (c + 1) := fun items h1 h2 h3 =>
    wp_mono (pick_ok hp ok hc h1 h3) fun r M' ⟨q', hr, hM, h⟩ => ⟨q', plains_all.mp h2 r hr, hM, h⟩
  cases j with
  | zero => cases hd
  | succ j =>
  cases d with
  | tup xs =>
    simp only [okB, Bool.and_eq_true, decide_eq_true_eq, List.all_eq_true] at hd
    rw [plain_tup] at hpl
    have hc := cut_len xs (some (-1)) none
    have hf1 : fits (xs.length + (cut xs (some (-1)) none).length) = true := fits_of (by omega)
    have hf2 : fits (xs.length + 1) = true := fits_of (by omega)
    have pr : plains xs.reverse = true := plains_all.mpr fun d hd => plains_all.mp hpl d (List.mem_reverse.mp hd)
    simp -dsimp [isT, hf1, hf2]
    refine wp_mono (fin _ (by simp) (by simp [plain_tup, plain_lst, hpl, cut_plain, pr]; simp [DL.plain]) (by simp)) ?_
    rintro r M' h
    simpa -dsimp using h
  | str z =>
    simp -dsimp [isT]
    refine wp_mono (fin _ (by simp) (by simp; simp [DL.plain]) (by simp)) ?_
    rintro r M' h
    simpa -dsimp using h
  | non =>
    simp -dsimp [isT, isNonB]
    refine wp_mono (fin _ (by simp) (by simp [plain_tup]; simp [DL.plain]) (by simp)) ?_
    rintro r M' h
    simpa -dsimp using h
  | int i =>
    have hs : decide (i.natAbs.log2 < 1920) = true := by
      simp only [okB, decide_eq_true_eq] at hd
      exact decide_eq_true (by omega)
    simp -dsimp [isT, isNonB, strD, hs]
    refine wp_mono (fin _ (by simp) (by simp; simp [DL.plain]) (by simp)) ?_
    rintro r M' h
    simpa -dsimp using h
  | _ => cases hd

mutual
theorem bd_plain (k : Nat) : ∀ (d : D), DL.plain d = true → D.bd k d = true
  | .tup xs, h => by unfold D.bd; exact bds_plain k xs h
  | .lst xs, h => by unfold D.bd; exact bds_plain k xs h
  | .non, _ => rfl
  | .bl _, _ => rfl
  | .int _, _ => rfl
  | .str _, _ => rfl
  | .emp, _ => rfl
  | .obj _, h => nomatch h
  | .scr _, h => nomatch h
theorem bds_plain (k : Nat) : ∀ (ds : List D), plains ds = true → bdL k ds = true
  | [], _ => rfl
  | d :: ds, h => by
    simp only [plains_cons, Bool.and_eq_true] at h
    unfold bdL
    rw [bd_plain k d h.1, bds_plain k ds h.2]; rfl
end
theorem bd_pool {q : PoolS} {k : Nat} : (poolL q).bd k = true := by
  refine bds_plain k _ ?_
  simp [plain_lst]
  refine ⟨plains_all.mpr fun d hd => ?_, by simp [DL.plain]⟩
  obtain ⟨i, _, rfl⟩ := List.mem_map.mp hd
  rfl
section
variable {M : MS} {Q : D → MS → Prop} {n : Nat} {xs ys : List D}
theorem w_app (h : M[n]? = some (.lst xs)) (hf : fits (xs.length + 1) = true) {v : D} : wp (appL (.obj n) [v]) M Q = Q .non (M.set n (.lst (xs ++ [v]))) := wp_of (by unfold appL; simp only [h, hf, if_true])
theorem w_addOL (h : M[n]? = some (.lst xs)) (hf : fits (xs.length + ys.length) = true) : wp (addD (.obj n) (.lst ys)) M Q = Q (.lst (xs ++ ys)) M := wp_of (by unfold addD catL; simp only [lstOf, h, hf, if_true])
end
theorem bent_ok {M : MS} {p : Nat} {q : PoolS} {c n : Nat} {x : D} {xs : List D} (hp : p < M.length) (ok : PoolOk q c) (hc : c + 2 * n ≤ 1000000) (hd : okB 6 (.tup (x :: xs)) = true) (hz : szB 6 (.tup (x :: xs)) ≤ 100000) (hn : n ≤ 100) :
    wp (F__law_bent [.obj p, .tup (x :: xs), .int n]) (M.set p (poolL q)) fun r M' => ∃ q' ys, r = .lst ys ∧ plains ys = true ∧ ys.length ≤ 205 ∧ M' = M.set p (poolL q') ∧ PoolOk q' (c + 2 * n) := by
  have hpl := okB_plain _ _ hd
  rw [plain_tup] at hpl
  have hpl2 : DL.plain x = true ∧ plains xs = true := by simpa using hpl
  have hlen : xs.length + 1 ≤ 1000 := by
    simp only [okB, Bool.and_eq_true, decide_eq_true_eq] at hd
    simpa using hd.1
  have key : wp (fnB 7 (m__law_bent F__law_spots F__law_pick F__law_spot_put F__law_bent_spot F__law_spot F__law_odd_values) [.obj p, .tup (x :: xs), .int n]) (M.set p (poolL q)) fun r M' => ∃ q' ys zs, r = .lst ys ∧ plains ys = true ∧ ys.length ≤ 205 ∧ M' = M.set p (poolL q') ++ [.lst zs] ∧ PoolOk q' (c + 2 * n) := by
    have f1 : fits (xs.length + 1 + 1) = true := fits_of (by omega)
    unfold m__law_bent
    simp -dsimp [f1]
    refine wp_mono (spots_ok 6 (.tup (x :: xs)) [] _ hd hz (by decide)) ?_
    rintro r M1 ⟨rfl, ps, rfl, hp1, hp2, hp3⟩
    have hs := small62_nat (n := n) (by omega)
    simp -dsimp [hs]
    have pr : plains xs.reverse = true := plains_all.mpr fun d hd => plains_all.mp hpl2.2 d (List.mem_reverse.mp hd)
    refine wp_forI (fun i ρ M' => ∃ q' zs a b, M' = M.set p (poolL q') ++ [.lst zs] ∧ PoolOk q' (c + 2 * i) ∧ plains zs = true ∧ zs.length = 5 + i ∧ ρ = [some (.obj p), some (.tup (x :: xs)), some (.int n), some (.obj M.length), some (.lst ps), a, b]) ?_ ?_ ⟨q, _, _, _, rfl, ok, by simp [plain_tup, plain_lst, hpl2, pr]; simp [DL.plain], by simp, rfl⟩
    · rintro ρ M' ⟨q', zs, a, b, rfl, hq, h1, h2, rfl⟩
      simp at h2 hq
      simp -dsimp
      refine wp_mono (odd_ok _) ?_
      rintro r M2 ⟨rfl, ys, rfl, g1, g2⟩
      have h3 : (M.set p (poolL q') ++ [MO.lst zs])[M.length]? = some (.lst zs) := by simp
      have h4 : fits (zs.length + ys.length) = true := fits_of (by omega)
      simp -dsimp [w_addOL h3 h4]
      exact ⟨⟨h1, g1⟩, by omega, q', rfl, hq⟩
    · rintro i y ρ M' hy ⟨q', zs, a, b, rfl, hq, h1, h2, rfl⟩
      obtain ⟨hi, rfl⟩ := rng_get hy
      simp -dsimp
      rw [← List.set_append_left _ _ hp]
      refine wp_mono (pick_ok (by simp; omega) hq (by omega) hp1 (by omega)) ?_
      rintro r M2 ⟨q2, hr, rfl, hq2⟩
      obtain ⟨ns, e, rfl, hg, hl⟩ := hp3 r hr
      obtain ⟨j, hj⟩ := okB_get ns 6 _ e hd hg
      simp -dsimp
      refine ⟨?_, ?_⟩
      · rw [List.set_append_left _ _ hp]; simp [isObL]
      refine wp_mono (spot_ok _ hg) ?_
      rintro r M2 ⟨rfl, rfl⟩
      simp -dsimp
      refine wp_mono (bent_spot_ok (by simp; omega) hq2 (by omega) hj) ?_
      rintro r M2 ⟨q3, hr3, rfl, hq3⟩
      simp -dsimp
      refine wp_mono (put_ok ns 6 6 _ _ r _ hg hl hd hr3) ?_
      rintro r2 M2 ⟨rfl, hr4⟩
      have h3 : ((M ++ [MO.lst zs]).set p (poolL q3))[M.length]? = some (.lst zs) := by rw [List.set_append_left _ _ hp]; simp
      simp -dsimp [w_app h3 (fits_of (by omega))]
      refine ⟨q3, zs ++ [r2], ?_, by rw [show c + 2 * (i + 1) = c + 2 * i + 1 + 1 by omega]; exact hq3, by simp [h1, hr4], by simp; omega⟩
      rw [List.set_append_left _ _ hp]
      simp
  obtain ⟨r, M', e, q', ys, zs, rfl, h1, h2, rfl, hq⟩ := key
  refine wp_call (truncF_same (M := M.set p (poolL q)) (M2 := M.set p (poolL q')) (junk := [.lst zs]) e (by simp) ?_ ?_) ⟨q', ys, rfl, h1, h2, rfl, hq⟩
  · intro mo hmo
    obtain ⟨m, hm⟩ := List.mem_iff_getElem?.mp hmo
    by_cases hmp : m = p
    · subst hmp
      rw [setSelf hp] at hm
      cases hm
      exact .inr bd_pool
    · rw [List.getElem?_set_ne (fun z => hmp z.symm)] at hm
      refine .inl (List.mem_of_getElem? (i := m) ?_)
      rw [List.getElem?_set_ne (fun z => hmp z.symm)]
      exact hm
  · exact bd_plain _ _ (by rw [plain_lst]; exact h1)

def nbad (xs : List D) (i : Nat) : Nat := ((xs.take i).filter fun x => !isIntB x).length
theorem nbad_succ {xs : List D} {i : Nat} {x : D} (hx : xs[i]? = some x) : nbad xs (i + 1) = nbad xs i + if isIntB x = true then 0 else 1 := by
  unfold nbad
  rw [List.take_succ, hx]
  cases h : isIntB x <;> simp [h]
theorem law_is_row2_ok {a b : D} (ha : DL.plain a = true) (hb : DL.plain b = true) (M : MS) : F__law_is_row [.tup [a, b], .int 2] M = some (.ok (.bl (isIntB a && isIntB b)), M) := by
  refine wp_val ?_
  unfold F__law_is_row m__law_is_row
  have f2 : fits 2 = true := rfl
  simp -dsimp [isT, f2]
  refine wp_comI (fun i acc M' => M' = M ∧ acc.length = nbad [a, b] i) ?_ ⟨rfl, rfl⟩ ?_
  · rintro i x acc M' hx ⟨rfl, hac⟩
    have hxp : DL.plain x = true := by
      rcases List.mem_of_getElem? hx with _ | ⟨_, _ | ⟨_, h⟩⟩
      · exact ha
      · exact hb
      · cases h
    have hi := (List.getElem?_eq_some_iff.mp hx).1
    have ht := nbad_succ hx
    simp -dsimp [wp_of (law_is_integer_ok hxp _)]
    cases hc : isIntB x with
    | true => simp [hc] at ht; simp [hac, ht, hc]
    | false => simp [hc] at ht; simp [hac, ht, hc]
  · rintro ys M' ⟨rfl, hy⟩
    cases h1 : isIntB a <;> cases h2 : isIntB b <;> simp [nbad, h1, h2] at hy <;> simp -dsimp [hy]
theorem law_is_fraction_ok {d : D} (h : DL.plain d = true) (M : MS) : F__law_is_fraction [d] M = some (.ok (.bl (isFr d)), M) := by
  refine wp_val ?_
  unfold F__law_is_fraction m__law_is_fraction
  have nt : ∀ d : D, (∀ xs, d ≠ .tup xs) → DL.plain d = true → wp (fnB 1 (sSeq (sIf (tOrr (tNo (tV (e1 (isiD .tuple) (eV 0)))) (tOrr (tV (e2 neD (eB lenD [eV 0]) (eC (.int 2)))) (tNo (tV (eB F__law_is_row [eV 0, eC (.int 2)]))))) (sRet (eC (.bl false))) (sNext)) (sRet (eAn (e2 gtD (e2 ixD (eV 0) (eC (.int 1))) (eC (.int 0))) (e2 eqD (eB F__law_common [eB absD [e2 ixD (eV 0) (eC (.int 0))], e2 ixD (eV 0) (eC (.int 1))]) (eC (.int 1)))))) [d]) M fun v M' => v = D.bl (isFr d) ∧ M' = M := fun d hd hp => by
    have hT : isT .tuple d = false := by cases d <;> first | rfl | exact absurd rfl (hd _)
    have hF : isFr d = false := by cases d <;> first | rfl | exact absurd rfl (hd _)
    simp -dsimp [w_isi hp, hT, hF]
  cases d with
  | tup xs =>
    by_cases hl : xs.length = 2
    · match xs, hl with
      | [a, b], hl2 =>
        clear hl hl2
        obtain ⟨ha, hb⟩ := plain_tup2 h
        by_cases hi : isIntB a = true ∧ isIntB b = true
        · obtain ⟨h1, h2⟩ := hi
          obtain ⟨i, rfl⟩ : ∃ i, a = .int i := by cases a <;> first | exact ⟨_, rfl⟩ | cases h1
          obtain ⟨j, rfl⟩ : ∃ i, b = .int i := by cases b <;> first | exact ⟨_, rfl⟩ | cases h2
          by_cases hj : 1 ≤ j
          · have hc := law_common_ok (a := (i.natAbs : Int)) (b := j) (by omega) (by omega) M
            have eg : gI (i.natAbs : Int) j = gI i j := by unfold gI; simp
            rw [eg] at hc
            have hj2 : 0 < j := by omega
            simp -dsimp [isT, wp_of (law_is_row2_ok ha hb _), h1, h2, hj2, wp_of hc, isFr, hj]
          · have hj2 : ¬ 0 < j := by omega
            simp -dsimp [isT, wp_of (law_is_row2_ok ha hb _), h1, h2, hj2, isFr, hj]
        · have hfr : isFr (.tup [a, b]) = false := by
            cases a <;> cases b <;> first | rfl | (exact absurd ⟨rfl, rfl⟩ hi)
          have hc : (isIntB a && isIntB b) = false := by
            cases h1 : isIntB a with
            | false => rfl
            | true =>
              cases h2 : isIntB b with
              | false => rfl
              | true => exact absurd ⟨h1, h2⟩ hi
          have hr := law_is_row2_ok ha hb M
          rw [hc] at hr
          simp -dsimp [isT, wp_of hr, hfr]
    · have hl2 : ¬ ((xs.length : Int) = 2) := by omega
      have : isFr (.tup xs) = false := by
        unfold isFr
        split
        · rename_i e; simp at e; subst e; simp at hl
        · rfl
      simp -dsimp [isT, this, hl2]
  | _ => exact nt _ (fun _ z => nomatch z) h
theorem law_is_degree_ok {d : D} (h : DL.plain d = true) (M : MS) : F__law_is_degree [d] M = some (.ok (.bl (isFr d && match d with | .tup [.int a, .int b] => decide (0 ≤ a) && decide (a ≤ b) | _ => false)), M) := by
  have h0 := law_is_fraction_ok h M
  refine wp_val ?_
  unfold F__law_is_degree m__law_is_degree
  cases c : isFr d with
  | false =>
    rw [c] at h0
    simp -dsimp [wp_of h0]
  | true =>
    rw [c] at h0
    obtain ⟨i, j, rfl⟩ : ∃ i j, d = .tup [.int i, .int j] := by
      unfold isFr at c
      split at c
      · exact ⟨_, _, rfl⟩
      · cases c
    by_cases hi : 0 ≤ i
    · simp -dsimp [wp_of h0, hi]
    · simp -dsimp [wp_of h0, hi]

theorem Sm.sub {a : Nat} {i j : Int} (hi : Sm a i) (hj : Sm a j) : Sm (a + 1) (i - j) := by
  unfold Sm at *
  have : 2 ^ (a + 1) = 2 ^ a + 2 ^ a := by rw [Nat.pow_succ]; omega
  omega
theorem div_small {n : Nat} {i g : Int} (hd : g ∣ i) (hg : 0 < g) (h : Sm n i) : Sm n (i / g) := by
  obtain ⟨t, rfl⟩ := hd
  rw [Int.mul_ediv_cancel_left t (by omega)]
  unfold Sm at *
  rw [Int.natAbs_mul] at h
  have : t.natAbs ≤ g.natAbs * t.natAbs := Nat.le_mul_of_pos_left _ (by omega)
  omega
theorem div_ne {i g : Int} (hd : g ∣ i) (hg : 0 < g) (h : i ≠ 0) : i / g ≠ 0 := by
  obtain ⟨t, rfl⟩ := hd
  rw [Int.mul_ediv_cancel_left t (by omega)]
  intro z
  rw [z] at h
  simp at h
def Row (d : D) : Prop := ∃ a b, d = dF (a, b) ∧ b ≠ 0 ∧ Sm 64 a ∧ Sm 64 b
theorem mkF_row {o u : Int} (hu : u ≠ 0) (h1 : Sm 64 o) (h2 : Sm 64 u) : Row (dF (mkF o u)) := by
  have hg := gI_pos (o := o) hu
  unfold mkF
  split
  · exact ⟨_, _, rfl, div_ne (Int.dvd_neg.mpr (gI_dvd2 o u)) hg (by omega), div_small (Int.dvd_neg.mpr (gI_dvd1 o u)) hg h1.neg, div_small (Int.dvd_neg.mpr (gI_dvd2 o u)) hg h2.neg⟩
  · exact ⟨_, _, rfl, div_ne (gI_dvd2 o u) hg hu, div_small (gI_dvd1 o u) hg h1, div_small (gI_dvd2 o u) hg h2⟩
theorem mkF0 {u : Int} (hu : u ≠ 0) : mkF 0 u = (0, 1) := by
  have e : gI 0 u = (u.natAbs : Int) := by unfold gI; simp
  unfold mkF
  rw [e]
  split
  · rename_i h
    have : (u.natAbs : Int) = -u := by omega
    rw [this, Int.ediv_self (by omega)]; simp
  · rename_i h
    have : (u.natAbs : Int) = u := by omega
    rw [this, Int.ediv_self hu]; simp
theorem okS_mono : ∀ {k j : Nat} {d : D}, okS k d = true → k ≤ j → okS j d = true
  | 0, _, _, h, _ => nomatch h
  | k + 1, 0, _, _, l => absurd l (by omega)
  | k + 1, j + 1, .tup xs, h, l => by
    simp only [okS, Bool.and_eq_true, decide_eq_true_eq, List.all_eq_true] at h ⊢
    exact ⟨h.1, fun d hd => okS_mono (h.2 d hd) (by omega)⟩
  | k + 1, j + 1, .lst xs, h, l => by
    simp only [okS, Bool.and_eq_true, decide_eq_true_eq, List.all_eq_true] at h ⊢
    exact ⟨h.1, fun d hd => okS_mono (h.2 d hd) (by omega)⟩
  | _ + 1, _ + 1, .non, _, _ => rfl
  | _ + 1, _ + 1, .bl _, _, _ => rfl
  | _ + 1, _ + 1, .int _, _, _ => rfl
  | _ + 1, _ + 1, .str _, h, _ => h
theorem sameN {n : Nat} (hn : n ≤ 12) (d : D) (M : MS) (h : okS n d = true) : F__law_same [d, d] M = some (.ok (.bl true), M) := same_ok 12 d M (okS_mono h hn)
theorem same6 (d : D) (M : MS) (h : okS 6 d = true) : F__law_same [d, d] M = some (.ok (.bl true), M) := sameN (by decide) d M h
theorem row_plain {d : D} (h : Row d) : DL.plain d = true := by
  obtain ⟨a, b, rfl, _⟩ := h
  rfl
/-- a draw of the law's own pool -/
def St0 (M : MS) (c : Nat) : Prop := ∃ q, M = [MO.gone].set 0 (poolL q) ∧ PoolOk q c
theorem St0.draw {M : MS} {c : Nat} {many : Int} (h : St0 M c) (hc : c ≤ 1000) (h0 : 0 < many) (h1 : Sm 64 many) : wp (F__law_draw [.obj 0, .int many]) M fun r M' => ∃ v, r = .int v ∧ 0 ≤ v ∧ v < many ∧ St0 M' (c + 1) := by
  obtain ⟨q, rfl, ok⟩ := h
  refine wp_mono (draw_ok (by decide) ok (by omega) h0 h1) ?_
  rintro r M' ⟨v, q', rfl, h2, h3, rfl, ok'⟩
  exact ⟨v, rfl, h2, h3, q', rfl, ok'⟩
theorem St0.pick {M : MS} {c : Nat} {items : List D} (h : St0 M c) (hc : c ≤ 1000) (h0 : items ≠ []) (h1 : items.length ≤ 1000000) : wp (F__law_pick [.obj 0, .lst items]) M fun r M' => r ∈ items ∧ St0 M' (c + 1) := by
  obtain ⟨q, rfl, ok⟩ := h
  refine wp_mono (pick_ok (by decide) ok (by omega) h0 h1) ?_
  rintro r M' ⟨q', hr, rfl, ok'⟩
  exact ⟨hr, q', rfl, ok'⟩

/-- a fraction of the program as a rational number -/
def dQ (q : Rat) : D := .tup [.int q.num, .int (q.den : Int)]
def SmQ (n : Nat) (q : Rat) : Prop := Sm n q.num ∧ Sm n (q.den : Int)
theorem dQ_dF (q : Rat) : dQ q = dF (q.num, (q.den : Int)) := rfl
theorem den_ne (q : Rat) : (q.den : Int) ≠ 0 := Int.natCast_ne_zero.mpr q.den_nz
theorem mkF_q {o u : Int} (hu : u ≠ 0) : dF (mkF o u) = dQ (Rat.divInt o u) := by
  have e1 := Rat.num_divInt o u
  have e2 := Rat.den_divInt o u
  rw [if_neg hu] at e2
  have eg : ((u.gcd o : Nat) : Int) = gI o u := by unfold gI; rw [Int.gcd_comm]; rfl
  unfold dQ dF mkF
  rw [e1, e2, Int.natCast_ediv, eg]
  by_cases h : u < 0
  · rw [if_pos h, Int.sign_eq_neg_one_of_neg h]
    have : (u.natAbs : Int) = -u := by omega
    rw [this, Int.neg_one_mul]
  · rw [if_neg h, Int.sign_eq_one_of_pos (by omega)]
    have : (u.natAbs : Int) = u := by omega
    rw [this, Int.one_mul]
theorem divInt_sm {n : Nat} {o u : Int} (hu : u ≠ 0) (h1 : Sm n o) (h2 : Sm n u) : SmQ n (Rat.divInt o u) := by
  have hg := gI_pos (o := o) hu
  have e := mkF_q (o := o) hu
  have en : (mkF o u).1 = (Rat.divInt o u).num := by
    have := congrArg (fun d => match d with | .tup [.int a, _] => a | _ => 0) e
    exact this
  have ed : (mkF o u).2 = ((Rat.divInt o u).den : Int) := by
    have := congrArg (fun d => match d with | .tup [_, .int a] => a | _ => 0) e
    exact this
  unfold SmQ
  rw [← en, ← ed]
  unfold mkF
  split
  · exact ⟨div_small (Int.dvd_neg.mpr (gI_dvd1 o u)) hg h1.neg, div_small (Int.dvd_neg.mpr (gI_dvd2 o u)) hg h2.neg⟩
  · exact ⟨div_small (gI_dvd1 o u) hg h1, div_small (gI_dvd2 o u) hg h2⟩
theorem add_q (x y : Rat) : Rat.divInt (x.num * y.den + y.num * x.den) (x.den * y.den) = x + y := by
  rw [← Rat.divInt_add_divInt _ _ (den_ne x) (den_ne y), Rat.num_divInt_den, Rat.num_divInt_den]
theorem neg_q (y : Rat) : dF (-y.num, (y.den : Int)) = dQ (-y) := by
  unfold dQ
  rw [Rat.neg_num, Rat.neg_den]
  rfl
theorem mul_q (x y : Rat) : Rat.divInt (x.num * y.num) (x.den * y.den) = x * y := by
  rw [← Rat.divInt_mul_divInt, Rat.num_divInt_den, Rat.num_divInt_den]
theorem SmQ.mono {a b : Nat} {q : Rat} (h : SmQ a q) (l : a ≤ b) : SmQ b q := ⟨h.1.mono l, h.2.mono l⟩
theorem SmQ.neg {a : Nat} {q : Rat} (h : SmQ a q) : SmQ a (-q) := ⟨by rw [Rat.neg_num]; exact h.1.neg, by rw [Rat.neg_den]; exact h.2⟩
theorem SmQ.add {a b : Nat} {x y : Rat} (hx : SmQ a x) (hy : SmQ b y) : SmQ (a + b + 1) (x + y) := by
  rw [← add_q x y]
  exact divInt_sm (Int.mul_ne_zero (den_ne x) (den_ne y)) (Sm.add (hx.1.mul hy.2) ((hy.1.mul hx.2).mono (by omega))) ((hx.2.mul hy.2).mono (by omega))
theorem SmQ.mul {a b : Nat} {x y : Rat} (hx : SmQ a x) (hy : SmQ b y) : SmQ (a + b) (x * y) := by
  rw [← mul_q x y]
  exact divInt_sm (Int.mul_ne_zero (den_ne x) (den_ne y)) (hx.1.mul hy.1) (hx.2.mul hy.2)
theorem SmQ.sub {a b : Nat} {x y : Rat} (hx : SmQ a x) (hy : SmQ b y) : SmQ (a + b + 1) (x - y) := by
  rw [Rat.sub_eq_add_neg]
  exact hx.add hy.neg
theorem SmQ.int {n : Nat} {i : Int} (h : Sm n i) (hn : 0 < n) : SmQ n (i : Rat) := ⟨h, by
  show Sm n 1
  unfold Sm
  exact Nat.one_lt_two_pow (by omega)⟩
theorem dQ_int (i : Int) : dQ (i : Rat) = .tup [.int i, .int 1] := rfl
section
variable {x y : Rat} {M : MS}
theorem addedQ (hx : SmQ 4000 x) (hy : SmQ 4000 y) : F_added [dQ x, dQ y] M = some (.ok (dQ (x + y)), M) := by
  have h := added_ok (den_ne x) (den_ne y) hx.1 hx.2 hy.1 hy.2 M
  rw [mkF_q (Int.mul_ne_zero (den_ne x) (den_ne y)), add_q] at h
  exact h
theorem lessQ (hx : SmQ 4000 x) (hy : SmQ 4000 y) : F_less [dQ x, dQ y] M = some (.ok (dQ (x - y)), M) := by
  have h := less_ok (den_ne x) (den_ne y) hx.1 hx.2 hy.1 hy.2 (M := M)
  rw [mkF_q (Int.mul_ne_zero (den_ne x) (den_ne y))] at h
  have e := add_q x (-y)
  rw [Rat.neg_num, Rat.neg_den, Int.neg_mul, ← Int.sub_eq_add_neg, ← Rat.sub_eq_add_neg] at e
  rw [e] at h
  exact h
theorem isBelowQ (hx : SmQ 4000 x) (hy : SmQ 4000 y) : F_is_below [dQ x, dQ y] M = some (.ok (.bl (decide (x < y))), M) := by
  have h := is_below_ok hx.1 hx.2 hy.1 hy.2 (M := M)
  rw [← decide_eq_decide.mpr (Rat.lt_iff x y)] at h
  exact h
theorem lawFractionQ {o u : Int} (hu : u ≠ 0) (hs : Sm 9000 u) : F__law_fraction [.int o, .int u] M = some (.ok (dQ (Rat.divInt o u)), M) := by
  rw [← mkF_q hu]
  exact law_fraction_ok hu hs M
end

def dotQ : List Int → List Rat → Rat
  | f :: fs, x :: xs => (f : Rat) * x + dotQ fs xs
  | _, _ => 0
theorem dotQ_drop {fs : List Int} {xs : List Rat} {i : Nat} {f : Int} {x : Rat} (h1 : fs[i]? = some f) (h2 : xs[i]? = some x) : dotQ (fs.drop i) (xs.drop i) = (f : Rat) * x + dotQ (fs.drop (i + 1)) (xs.drop (i + 1)) := by
  obtain ⟨l1, e1⟩ := List.getElem?_eq_some_iff.mp h1
  obtain ⟨l2, e2⟩ := List.getElem?_eq_some_iff.mp h2
  rw [List.drop_eq_getElem_cons l1, List.drop_eq_getElem_cons l2, e1, e2]
  rfl
theorem dotQ_end {fs : List Int} {xs : List Rat} {i : Nat} (h : fs.length ≤ i ∨ xs.length ≤ i) : dotQ (fs.drop i) (xs.drop i) = 0 := by
  rcases h with h | h
  · rw [List.drop_of_length_le h]; rfl
  · rw [List.drop_of_length_le h]; cases fs.drop i <;> rfl
/-- an item put at a place: how great it gets -/
theorem putV_ok : ∀ (ns : List Nat) (k j q : Nat) (d e item : D) (M : MS), getB d ns = some e → ns.length < k → okB q d = true → vB q d = true → vB j item = true →
    wp (R__law_spot_put k [d, .lst (pathD ns), item]) M fun r M' => M' = M ∧ vB (q + j) r = true ∧ tot r ≤ tot d + tot item
  | [], k + 1, j, q, d, e, item, M, hg, hk, ho, hd, hi => by
    unfold R__law_spot_put m__law_spot_put
    simp -dsimp [pathD]
    exact vB_mono hi (by omega)
  | n :: ns, k + 1, j, q, d, e, item, M, hg, hk, ho, hd, hi => by
    unfold R__law_spot_put m__law_spot_put
    cases d with
    | tup xs =>
      cases q with
      | zero => cases hd
      | succ q =>
        simp only [okB, Bool.and_eq_true, decide_eq_true_eq, List.all_eq_true] at ho
        rw [vB_tup, List.all_eq_true] at hd
        unfold getB at hg
        cases hx : xs[n]? with
        | none => rw [hx] at hg; cases hg
        | some x =>
          rw [hx] at hg
          have hlt := (List.getElem?_eq_some_iff.mp hx).1
          have c1 : cut xs none (some (n : Int)) = xs.take n := cut_pre (by omega)
          have c2 : cut xs (some ((n : Int) + 1)) none = xs.drop (n + 1) := cut_post (xs := xs) (n := n + 1) (by omega)
          have hne : ¬ ((ns.length : Int) + 1 = 0) := by omega
          have hf1 : fits (min n xs.length + 1) = true := fits_of (by omega)
          have hf2 : fits (min n xs.length + 1 + (xs.length - (n + 1))) = true := fits_of (by omega)
          simp -dsimp [pathD, hne, c1, hx]
          refine wp_mono (putV_ok ns k j q x e item M hg (by simpa using hk) (ho.2 x (List.mem_of_getElem? hx)) (hd x (List.mem_of_getElem? hx)) hi) ?_
          rintro r M' ⟨rfl, hr, ht⟩
          simp -dsimp [pathD, c1, c2, hf1, hf2]
          have ex : xs.drop n = x :: xs.drop (n + 1) := by
            rw [List.drop_eq_getElem_cons hlt]
            rw [List.getElem?_eq_getElem hlt] at hx
            rw [Option.some.inj hx]
          have et : tots xs = tots (xs.take n) + (tot x + 4 + tots (xs.drop (n + 1))) := by
            have h := tots_app (xs.take n) (xs.drop n)
            rw [List.take_append_drop, ex] at h
            simpa [tots] using h
          refine ⟨?_, ?_⟩
          · rw [show q + 1 + j = (q + j) + 1 by omega, vB_tup, List.all_eq_true]
            intro y hy
            simp only [List.mem_append, List.mem_cons, List.not_mem_nil, or_false] at hy
            rcases hy with hy | rfl | hy
            · exact vB_mono (hd y (List.mem_of_mem_take hy)) (by omega)
            · exact hr
            · exact vB_mono (hd y (List.mem_of_mem_drop hy)) (by omega)
          · simp only [tot, tots_app, tots]
            omega
    | _ => cases hg
  | _ :: _, 0, _, _, _, _, _, _, _, hk, _, _, _ => absurd hk (Nat.not_lt_zero _)
  | [], 0, _, _, _, _, _, _, _, hk, _, _, _ => absurd hk (Nat.not_lt_zero _)
theorem vB_get : ∀ (ns : List Nat) (q : Nat) (d e : D), vB q d = true → getB d ns = some e → vB q e = true ∧ tot e ≤ tot d
  | [], q, d, e, h, g => by cases g; exact ⟨h, Nat.le_refl _⟩
  | n :: ns, q, d, e, h, g => by
    cases d with
    | tup xs =>
      cases q with
      | zero => cases h
      | succ q =>
        rw [vB_tup, List.all_eq_true] at h
        unfold getB at g
        cases hx : xs[n]? with
        | none => rw [hx] at g; cases g
        | some x =>
          rw [hx] at g
          have hm := List.mem_of_getElem? hx
          obtain ⟨a, b⟩ := vB_get ns q x e (h x hm) g
          have := tot_mem hm
          exact ⟨vB_mono a (by omega), by simp only [tot]; omega⟩
    | _ => cases g
theorem oddV_ok (M : MS) : wp (F__law_odd_values []) M fun r M' => M' = M ∧ ∃ xs, r = .lst xs ∧ (∀ y ∈ xs, showB 14 300 y) ∧ xs.length ≤ 100 := by
  unfold F__law_odd_values m__law_odd_values
  simp -dsimp
  have z : ∀ y : D, (vB 14 y && decide (tot y ≤ 300)) = true → showB 14 300 y := fun y h => by
    have := Bool.and_eq_true_iff.mp h
    exact .inr ⟨this.1, of_decide_eq_true this.2⟩
  repeat (first | exact .inl rfl | exact z _ (by decide +kernel) | refine ⟨?_, ?_⟩)
theorem bent_spotV_ok {M : MS} {p j : Nat} {q : PoolS} {c : Nat} {d : D} (hp : p < M.length) (ok : PoolOk q c) (hc : c ≤ 1000000) (hd : okB (j + 1) d = true) (hv : vB (j + 1) d = true) :
    wp (F__law_bent_spot [.obj p, d]) (M.set p (poolL q)) fun r M' => ∃ q', vB (j + 3) r = true ∧ tot r ≤ 10 * tot d + 120 ∧ M' = M.set p (poolL q') ∧ PoolOk q' (c + 1) := by
  unfold F__law_bent_spot m__law_bent_spot
  have fin : ∀ items : List D, items ≠ [] → (∀ y ∈ items, vB (j + 3) y = true ∧ tot y ≤ 10 * tot d + 120) → items.length ≤ 1000000 → wp (F__law_pick [.obj p, .lst items]) (M.set p (poolL q)) fun r M' => ∃ q', vB (j + 3) r = true ∧ tot r ≤ 10 * tot d + 120 ∧ M' = M.set p (poolL q') ∧ PoolOk q' (c + 1) := fun items h1 h2 h3 =>
    wp_mono (pick_ok hp ok hc h1 h3) fun r M' ⟨q', hr, hM, h⟩ => ⟨q', (h2 r hr).1, (h2 r hr).2, hM, h⟩
  have cs : ∀ (s : String), vB (j + 3) (.str s) = true := fun s => codes_str s
  have ci : ∀ (i : Int), vB (j + 3) (.int i) = true := fun _ => rfl
  cases d with
  | tup xs =>
    simp only [okB, Bool.and_eq_true, decide_eq_true_eq, List.all_eq_true] at hd
    have hv0 := hv
    rw [vB_tup, List.all_eq_true] at hv
    have hcl := cut_len xs (some (-1)) none
    have hf1 : fits (xs.length + (cut xs (some (-1)) none).length) = true := fits_of (by omega)
    have hf2 : fits (xs.length + 1) = true := fits_of (by omega)
    simp -dsimp [isT, hf1, hf2]
    have sub : ∀ ys : List D, (∀ y ∈ ys, y ∈ xs) → vB (j + 3) (.tup ys) = true := fun ys hs => by
      rw [vB_tup, List.all_eq_true]
      exact fun y hy => vB_mono (hv y (hs y hy)) (by omega)
    have tc : tots (cut xs (some (-1)) none) ≤ tots xs := by
      unfold cut
      exact Nat.le_trans (tots_take _ _) (tots_drop _ _)
    have tc1 : tots (cut xs (some 1) none) ≤ tots xs := by
      unfold cut
      exact Nat.le_trans (tots_take _ _) (tots_drop _ _)
    refine wp_mono (fin _ (by simp) (fun y hy => ?_) (by simp)) ?_
    · simp only [List.mem_cons, List.not_mem_nil, or_false] at hy
      rcases hy with rfl | rfl | rfl | rfl | rfl | rfl | rfl | rfl | rfl | rfl | rfl
      · exact ⟨sub _ fun y hy => cut_sub hy, by simp only [tot]; omega⟩
      · exact ⟨sub _ fun y hy => (List.mem_append.mp hy).elim id cut_sub, by simp only [tot, tots_app]; omega⟩
      · exact ⟨sub _ fun y hy => List.mem_reverse.mp hy, by simp only [tot, tots_rev]; omega⟩
      · exact ⟨sub _ fun y hy => hy, by simp only [tot]; omega⟩
      · exact ⟨rfl, by simp only [tot]; omega⟩
      · exact ⟨rfl, by simp only [tot, tots]; omega⟩
      · refine ⟨?_, by simp only [tot, tots_app, tots]; omega⟩
        rw [vB_tup, List.all_append, Bool.and_eq_true]
        exact ⟨by rw [List.all_eq_true]; exact fun y hy => vB_mono (hv y hy) (by omega), rfl⟩
      · refine ⟨?_, by have : tots [D.str "name", D.str "a"] ≤ 120 := by decide
                       simp only [tot]; omega⟩
        rw [vB_tup]; simp [vB, codes_str]
      · refine ⟨?_, ?_⟩
        · rw [vB_tup]
          simp only [List.all_cons, List.all_nil, Bool.and_true, Bool.and_eq_true]
          exact ⟨codes_str _, vB_mono hv0 (by omega)⟩
        · have : tot (D.str "not") ≤ 38 := by decide
          simp only [tot, tots] at this ⊢; omega
      · exact ⟨rfl, by simp only [tot, tots]; omega⟩
      · exact ⟨rfl, by simp only [tot, tots]; omega⟩
    · rintro r M' h
      simpa -dsimp using h
  | str z =>
    simp -dsimp [isT]
    refine wp_mono (fin _ (by simp) (fun y hy => ?_) (by simp)) ?_
    · have : ∀ s : String, s.length ≤ 6 → tot (.str s) ≤ 10 * tot (.str z) + 120 := fun s hs => by
        have : (Str.ofString s).length = s.length := ofString_len s
        simp only [tot]; omega
      simp only [List.mem_cons, List.not_mem_nil, or_false] at hy
      rcases hy with rfl | rfl | rfl | rfl | rfl | rfl | rfl | rfl | rfl | rfl | rfl | rfl | rfl | rfl | rfl | rfl <;> first
        | exact ⟨codes_str _, this _ (by decide)⟩
        | exact ⟨rfl, by simp only [tot]; omega⟩
    · rintro r M' h
      simpa -dsimp using h
  | non =>
    simp -dsimp [isT, isNonB]
    refine wp_mono (fin _ (by simp) (fun y hy => ?_) (by simp)) ?_
    · simp only [List.mem_cons, List.not_mem_nil, or_false] at hy
      rcases hy with rfl | rfl | rfl <;> exact ⟨rfl, by simp only [tot, tots]; omega⟩
    · rintro r M' h
      simpa -dsimp using h
  | int i =>
    have hs : decide (i.natAbs.log2 < 1920) = true := by
      simp only [okB, decide_eq_true_eq] at hd
      exact decide_eq_true (by omega)
    simp -dsimp [isT, isNonB, strD, hs]
    refine wp_mono (fin _ (by simp) (fun y hy => ?_) (by simp)) ?_
    · simp only [List.mem_cons, List.not_mem_nil, or_false] at hy
      rcases hy with rfl | rfl | rfl | rfl | rfl | rfl | rfl <;> first
        | exact ⟨rfl, by simp only [tot]; omega⟩
        | (refine ⟨codes_str _, ?_⟩
           have := len_str_of_int i
           rw [show toString i = i.repr from rfl] at this
           simp only [tot]; omega)
    · rintro r M' h
      simpa -dsimp using h
  | _ => cases hd
theorem bentV_ok {M : MS} {p : Nat} {q : PoolS} {c n : Nat} {x : D} {xs : List D} (hp : p < M.length) (ok : PoolOk q c) (hc : c + 2 * n ≤ 1000000) (hd : okB 6 (.tup (x :: xs)) = true) (hv : vB 5 (.tup (x :: xs)) = true) (hz : szB 6 (.tup (x :: xs)) ≤ 100000) (hn : n ≤ 100) :
    wp (F__law_bent [.obj p, .tup (x :: xs), .int n]) (M.set p (poolL q)) fun r M' => ∃ q' ys, r = .lst ys ∧ (∀ y ∈ ys, showB 14 (11 * tot (.tup (x :: xs)) + 300) y) ∧ ys.length ≤ 205 ∧ M' = M.set p (poolL q') ∧ PoolOk q' (c + 2 * n) := by
  have hlen : xs.length + 1 ≤ 1000 := by
    simp only [okB, Bool.and_eq_true, decide_eq_true_eq] at hd
    simpa using hd.1
  have hv1 := hv
  rw [vB_tup, List.all_eq_true] at hv1
  have key : wp (fnB 7 (m__law_bent F__law_spots F__law_pick F__law_spot_put F__law_bent_spot F__law_spot F__law_odd_values) [.obj p, .tup (x :: xs), .int n]) (M.set p (poolL q)) fun r M' => ∃ q' ys zs, r = .lst ys ∧ (∀ y ∈ ys, showB 14 (11 * tot (.tup (x :: xs)) + 300) y) ∧ ys.length ≤ 205 ∧ M' = M.set p (poolL q') ++ [.lst zs] ∧ PoolOk q' (c + 2 * n) := by
    have f1 : fits (xs.length + 1 + 1) = true := fits_of (by omega)
    unfold m__law_bent
    simp -dsimp [f1]
    refine wp_mono (spots_ok 6 (.tup (x :: xs)) [] _ hd hz (by decide)) ?_
    rintro r M1 ⟨rfl, ps, rfl, hp1, hp2, hp3⟩
    have hs := small62_nat (n := n) (by omega)
    simp -dsimp [hs]
    refine wp_forI (fun i ρ M' => ∃ q' zs a b, M' = M.set p (poolL q') ++ [.lst zs] ∧ PoolOk q' (c + 2 * i) ∧ (∀ y ∈ zs, showB 14 (11 * tot (.tup (x :: xs)) + 300) y) ∧ zs.length = 5 + i ∧ ρ = [some (.obj p), some (.tup (x :: xs)), some (.int n), some (.obj M.length), some (.lst ps), a, b]) ?_ ?_ ⟨q, _, _, _, rfl, ok, ?_, by simp, rfl⟩
    · rintro ρ M' ⟨q', zs, a, b, rfl, hq, h1, h2, rfl⟩
      simp at h2 hq
      simp -dsimp
      refine wp_mono (oddV_ok _) ?_
      rintro r M2 ⟨rfl, ys, rfl, g1, g2⟩
      have h3 : (M.set p (poolL q') ++ [MO.lst zs])[M.length]? = some (.lst zs) := by simp
      have h4 : fits (zs.length + ys.length) = true := fits_of (by omega)
      simp -dsimp [w_addOL h3 h4]
      refine ⟨fun y hy => ?_, by omega, q', rfl, hq⟩
      rcases hy with hy | hy
      · exact h1 y hy
      · exact (g1 y hy).mono (Nat.le_refl _) (by omega)
    · rintro i y ρ M' hy ⟨q', zs, a, b, rfl, hq, h1, h2, rfl⟩
      obtain ⟨hi, rfl⟩ := rng_get hy
      simp -dsimp
      rw [← List.set_append_left _ _ hp]
      refine wp_mono (pick_ok (by simp; omega) hq (by omega) hp1 (by omega)) ?_
      rintro r M2 ⟨q2, hr, rfl, hq2⟩
      obtain ⟨ns, e, rfl, hg, hl⟩ := hp3 r hr
      obtain ⟨j, hj⟩ := okB_get ns 6 _ e hd hg
      obtain ⟨ve, te⟩ := vB_get ns 5 _ e hv hg
      have hj6 : okB 6 e = true := by
        have : ∀ (ns : List Nat) (k : Nat) (d e : D), okB k d = true → getB d ns = some e → okB k e = true := by
          intro ns
          induction ns with
          | nil => intro k d e h g; cases g; exact h
          | cons n ns ih =>
            intro k d e h g
            cases d with
            | tup xs =>
              cases k with
              | zero => cases h
              | succ k =>
                simp only [okB, Bool.and_eq_true, List.all_eq_true] at h
                unfold getB at g
                cases hx : xs[n]? with
                | none => rw [hx] at g; cases g
                | some x =>
                  rw [hx] at g
                  have := ih k x e (h.2 x (List.mem_of_getElem? hx)) g
                  have up : ∀ (k : Nat) (d : D), okB k d = true → okB (k + 1) d = true := by
                    intro k
                    induction k with
                    | zero => intro d h; cases h
                    | succ k ih2 =>
                      intro d h
                      cases d with
                      | tup xs =>
                        simp only [okB, Bool.and_eq_true, decide_eq_true_eq, List.all_eq_true] at h ⊢
                        exact ⟨h.1, fun d hd => by have := ih2 d (h.2 d hd); simpa [okB] using this⟩
                      | _ => exact h
                  exact up k e this
            | _ => cases g
        exact this ns 6 _ e hd hg
      simp -dsimp
      refine ⟨?_, ?_⟩
      · rw [List.set_append_left _ _ hp]; simp [isObL]
      refine wp_mono (spot_ok _ hg) ?_
      rintro r M2 ⟨rfl, rfl⟩
      simp -dsimp
      refine wp_mono (bent_spotV_ok (j := 5) (by simp; omega) hq2 (by omega) hj6 (vB_mono ve (by decide))) ?_
      rintro r M2 ⟨q3, hr3, ht3, rfl, hq3⟩
      simp -dsimp
      have hvp := vB_mono hv (show 5 ≤ 6 by decide)
      refine wp_mono (putV_ok ns 6 8 6 _ _ r _ hg hl hd hvp hr3) ?_
      rintro r2 M2 ⟨rfl, hr4, ht4⟩
      have h3 : ((M ++ [MO.lst zs]).set p (poolL q3))[M.length]? = some (.lst zs) := by rw [List.set_append_left _ _ hp]; simp
      simp -dsimp [w_app h3 (fits_of (by omega))]
      refine ⟨q3, zs ++ [r2], ?_, by rw [show c + 2 * (i + 1) = c + 2 * i + 1 + 1 by omega]; exact hq3, ?_, by simp; omega⟩
      · rw [List.set_append_left _ _ hp]
        simp
      · intro y hy
        rcases List.mem_append.mp hy with hy | hy
        · exact h1 y hy
        · rw [List.mem_singleton.mp hy]
          exact .inr ⟨hr4, by omega⟩
    · intro y hy
      have hx := hv1 x List.mem_cons_self
      have tx : tot x + 4 ≤ tots (x :: xs) := tot_mem List.mem_cons_self
      have all : ∀ ys : List D, (∀ y ∈ ys, y ∈ x :: xs) → vB 14 (.tup ys) = true := fun ys hs => by
        rw [vB_tup, List.all_eq_true]
        exact fun y hy => vB_mono (hv1 y (hs y hy)) (by omega)
      simp only [List.mem_cons, List.not_mem_nil, or_false] at hy
      rcases hy with rfl | rfl | rfl | rfl | rfl
      · exact .inr ⟨vB_mono hv (by decide), by omega⟩
      · exact .inr ⟨all _ fun y hy => hy, by simp only [tot]; omega⟩
      · refine .inr ⟨?_, by simp only [tot, tots, tots_app]; omega⟩
        rw [vB_tup, List.all_eq_true]
        intro y hy
        simp only [List.mem_cons, List.mem_append, List.not_mem_nil, or_false] at hy
        rcases hy with rfl | hy | rfl
        · exact vB_mono (hv1 _ List.mem_cons_self) (by omega)
        · exact vB_mono (hv1 _ (List.mem_cons_of_mem _ hy)) (by omega)
        · rfl
      · exact .inr ⟨all _ fun y hy => by simp at hy; rw [hy]; exact List.mem_cons_self, by simp only [tot, tots] at tx ⊢; omega⟩
      · have e : xs.reverse ++ [x] = (x :: xs).reverse := by simp
        refine .inr ⟨all _ fun y hy => by simpa [or_comm] using hy, ?_⟩
        simp only [tot, tots, tots_app, tots_rev]; omega
  obtain ⟨r, M', e, q', ys, zs, rfl, h1, h2, rfl, hq⟩ := key
  refine wp_call (truncF_same (M := M.set p (poolL q)) (M2 := M.set p (poolL q')) (junk := [.lst zs]) e (by simp) ?_ ?_) ⟨q', ys, rfl, h1, h2, rfl, hq⟩
  · intro mo hmo
    obtain ⟨m, hm⟩ := List.mem_iff_getElem?.mp hmo
    by_cases hmp : m = p
    · subst hmp
      rw [setSelf hp] at hm
      cases hm
      exact .inr bd_pool
    · rw [List.getElem?_set_ne (fun z => hmp z.symm)] at hm
      refine .inl (List.mem_of_getElem? (i := m) ?_)
      rw [List.getElem?_set_ne (fun z => hmp z.symm)]
      exact hm
  · exact bd_plain _ _ (by rw [plain_lst]; exact plains_all.mpr fun y hy => showB_plain (h1 y hy))

/-! ### words -/
section
variable {M : MS} {Q : D → MS → Prop}
@[simp ↓] theorem w_memT {z : Str} {xs : List D} (h : xs.all flatD = true) : wp (memD (.str z) (.tup xs)) M Q = Q (.bl (xs.any fun y => flatEq y (.str z))) M := w_mem (by
  unfold memB memSq; simp only [dAt, seqOf, flatD, h, Bool.and_self, if_true])
@[simp ↓] theorem w_nmemT {z : Str} {xs : List D} (h : xs.all flatD = true) : wp (nmemD (.str z) (.tup xs)) M Q = Q (.bl (!(xs.any fun y => flatEq y (.str z)))) M := w_nmem (by
  unfold memB memSq; simp only [dAt, seqOf, flatD, h, Bool.and_self, if_true])
theorem w_mem1 {c : Nat} {z : Str} : wp (memD (.str ⟨#[c]⟩) (.str z)) M Q = Q (.bl (decide (c ∈ z.cps.toList))) M := w_mem (by
  unfold memB; simp only [dAt, memStr])
end
theorem w_ltS {M : MS} {Q : D → MS → Prop} {x y : Str} : wp (ltD (.str x) (.str y)) M Q = Q (.bl (decide (x.cps.toList < y.cps.toList))) M := wp_of rfl
theorem w_gtS {M : MS} {Q : D → MS → Prop} {x y : Str} : wp (gtD (.str x) (.str y)) M Q = Q (.bl (decide (y.cps.toList < x.cps.toList))) M := wp_of rfl
theorem w_srcZ {M : MS} {QS : Src → MS → Prop} {z : Str} : wp (srcD (.str z)) M QS = QS (.frz (z.cps.toList.map fun c => .str ⟨#[c]⟩)) M := wp_of rfl
def lowB (c : Nat) : Bool := decide (97 ≤ c) && decide (c ≤ 122)
def wordS (z : Str) : Bool := !(["all", "and", "for", "join", "meet", "none", "not", "or", "then"] : List Str).any (fun y => decide (y = z)) && (decide (1 ≤ z.length) && decide (z.length ≤ 12)) && z.cps.toList.all fun c => lowB c
def wordB : D → Bool
  | .str z => wordS z
  | _ => false
theorem any_strs {z : Str} : ∀ ss : List Str, ((ss.map D.str).any fun y => flatEq y (.str z)) = ss.any fun y => decide (y = z)
  | [] => rfl
  | s :: r => by rw [List.map_cons, List.any_cons, List.any_cons, any_strs r]; rfl
theorem all_flat : ∀ ss : List Str, (ss.map D.str).all flatD = true
  | [] => rfl
  | s :: r => by simp only [List.map_cons, List.all_cons, flatD, all_flat r, Bool.and_self]
theorem letters {c : Nat} : (c ∈ ("abcdefghijklmnopqrstuvwxyz" : Str).cps.toList) ↔ 97 ≤ c ∧ c ≤ 122 := by
  have e : ("abcdefghijklmnopqrstuvwxyz" : Str).cps.toList = List.range' 97 26 := by decide +kernel
  rw [e, List.mem_range'_1]; omega
theorem is_word_ok {d : D} (h : DL.plain d = true) (hz : ∀ z, d = .str z → z.length ≤ 1000000) (M : MS) : F_is_word [d] M = some (.ok (.bl (wordB d)), M) := by
  refine wp_val ?_
  unfold F_is_word m_is_word
  by_cases hs : ∃ z, d = .str z
  · obtain ⟨z, rfl⟩ := hs
    have hf := fits_of (hz z rfl)
    have eT : c_TAKEN = .tup ((["all", "and", "for", "join", "meet", "none", "not", "or", "then"] : List Str).map D.str) := rfl
    simp -dsimp only [w_fnB, w_sSeq, w_sIf, w_tOrr, w_tNo, w_tV, w_e1, w_e2, w_eV, w_eC, eT, List.map_cons, List.map_nil]
    have e1 := any_strs (z := z) ["all", "and", "for", "join", "meet", "none", "not", "or", "then"]
    have e2 := all_flat ["all", "and", "for", "join", "meet", "none", "not", "or", "then"]
    simp only [List.map_cons, List.map_nil] at e1 e2
    cases c1 : (["all", "and", "for", "join", "meet", "none", "not", "or", "then"] : List Str).any (fun y => decide (y = z)) with
    | true =>
      rw [c1] at e1
      have : wordB (.str z) = false := by show wordS z = _; unfold wordS; rw [c1]; rfl
      simp -dsimp [isT, w_memT e2, e1, this]
    | false =>
      rw [c1] at e1
      simp -dsimp [isT, w_memT e2, e1, hf, c_MOST_LETTERS]
      by_cases c2 : (1 : Int) ≤ z.length
      · by_cases c3 : (z.length : Int) ≤ 12
        · simp -dsimp [c2, c3, w_srcZ]
          have hfl : fits (z.cps.toList.map fun c => D.str ⟨#[c]⟩).length = true := by rw [List.length_map]; exact fits_of (by have := hz z rfl; simpa [Str.length] using this)
          refine ⟨by simpa using hfl, ?_⟩
          refine wp_comI (fun i acc M' => M' = M ∧ acc = (z.cps.toList.map fun c => D.bl (lowB c)).take i) ?_ ⟨rfl, rfl⟩ ?_
          · rintro i x acc M' hx ⟨rfl, rfl⟩
            rw [List.getElem?_map] at hx
            obtain ⟨c, hc, rfl⟩ := Option.map_eq_some_iff.mp hx
            simp -dsimp [c_LETTERS, w_mem1]
            rw [List.take_succ, List.getElem?_map, hc]
            simp only [Option.map_some, Option.toList_some]
            congr 3
            unfold lowB
            rw [← Bool.decide_and]
            exact decide_eq_decide.mpr (Array.mem_toList_iff.symm.trans letters)
          · rintro ys M' ⟨rfl, rfl⟩
            have et : ∀ (L : List D), L.length = z.cps.toList.length → L.take (List.map (fun c => D.str ⟨#[c]⟩) z.cps.toList).length = L := fun L h => by rw [List.length_map, ← h, List.take_length]
            rw [et _ (by rw [List.length_map])]
            have eb := blsOf_map (f := fun c => lowB c) z.cps.toList
            simp -dsimp [w_allL eb]
            have : wordB (.str z) = (z.cps.toList.all fun c => lowB c) := by
              show wordS z = _; unfold wordS
              rw [c1, decide_eq_true (by omega), decide_eq_true (by omega)]; simp
            rw [this]
            exact (Array.all_toList).symm
        · have : wordB (.str z) = false := by show wordS z = _; unfold wordS; rw [decide_eq_false (p := z.length ≤ 12) (by omega)]; simp
          simp -dsimp [c2, c3, this]
      · have : wordB (.str z) = false := by show wordS z = _; unfold wordS; rw [decide_eq_false (p := 1 ≤ z.length) (by omega)]; simp
        simp -dsimp [c2, this]
  · have hT : isT .str d = false := by cases d <;> first | rfl | exact absurd ⟨_, rfl⟩ hs
    have hF : wordB d = false := by cases d <;> first | rfl | exact absurd ⟨_, rfl⟩ hs
    simp -dsimp [w_isi h, hT, hF]
theorem law_is_word_ok {d : D} (h : DL.plain d = true) (hz : ∀ z, d = .str z → z.length ≤ 1000000) (M : MS) : F__law_is_word [d] M = some (.ok (.bl (wordB d)), M) := by
  refine wp_val ?_
  unfold F__law_is_word m__law_is_word
  by_cases hs : ∃ z, d = .str z
  · obtain ⟨z, rfl⟩ := hs
    have hf := fits_of (hz z rfl)
    have e1 := any_strs (z := z) ["all", "and", "for", "join", "meet", "none", "not", "or", "then"]
    have e2 := all_flat ["all", "and", "for", "join", "meet", "none", "not", "or", "then"]
    simp only [List.map_cons, List.map_nil] at e1 e2
    cases c1 : (["all", "and", "for", "join", "meet", "none", "not", "or", "then"] : List Str).any (fun y => decide (y = z)) with
    | true =>
      rw [c1] at e1
      have : wordB (.str z) = false := by show wordS z = _; unfold wordS; rw [c1]; rfl
      simp -dsimp [isT, w_memT e2, e1, this]
    | false =>
      rw [c1] at e1
      simp -dsimp [isT, w_memT e2, e1, hf]
      by_cases c2 : (z.length : Int) < 1
      · have : wordB (.str z) = false := by show wordS z = _; unfold wordS; rw [decide_eq_false (p := 1 ≤ z.length) (by omega)]; simp
        simp -dsimp [c2, this]
      · by_cases c3 : (12 : Int) < z.length
        · have : wordB (.str z) = false := by show wordS z = _; unfold wordS; rw [decide_eq_false (p := z.length ≤ 12) (by omega)]; simp
          simp -dsimp [c2, c3, this]
        · simp -dsimp [c2, c3, w_srcZ]
          have hfl : fits (z.cps.toList.map fun c => D.str ⟨#[c]⟩).length = true := by rw [List.length_map]; exact fits_of (by have := hz z rfl; simpa [Str.length] using this)
          refine ⟨by simpa using hfl, ?_⟩
          refine wp_comI (fun i acc M' => M' = M ∧ acc.length = ((z.cps.toList.take i).filter fun c => !(lowB c)).length) ?_ ⟨rfl, rfl⟩ ?_
          · rintro i x acc M' hx ⟨rfl, ha⟩
            rw [List.getElem?_map] at hx
            obtain ⟨c, hc, rfl⟩ := Option.map_eq_some_iff.mp hx
            have ea : ("a" : Str).cps.toList = [97] := by decide +kernel
            have ez : ("z" : Str).cps.toList = [122] := by decide +kernel
            have l1 : decide (([c] : List Nat) < [97]) = decide (c < 97) := by rw [← ltCps_eq]; simp [ltCps]
            have l2 : decide (([122] : List Nat) < [c]) = decide (122 < c) := by rw [← ltCps_eq]; simp [ltCps]
            have step : ((z.cps.toList.take (i + 1)).filter fun c => !(lowB c)).length = acc.length + if (lowB c) = true then 0 else 1 := by
              rw [List.take_succ, hc, List.filter_append, List.length_append, ← ha]
              congr 1
              show (List.filter _ [c]).length = _
              rw [List.filter_cons]
              cases hb : lowB c <;> simp
            by_cases k1 : c < 97
            · have hb : lowB c = false := by unfold lowB; rw [decide_eq_false (by omega)]; rfl
              rw [hb] at step
              simp -dsimp [w_ltS, ea, l1, k1]
              simpa using step.symm
            · by_cases k2 : 122 < c
              · have hb : lowB c = false := by unfold lowB; rw [decide_eq_false (p := c ≤ 122) (by omega)]; simp
                rw [hb] at step
                simp -dsimp [w_ltS, w_gtS, ea, ez, l1, l2, k1, k2]
                simpa using step.symm
              · have hb : lowB c = true := by unfold lowB; rw [decide_eq_true (by omega), decide_eq_true (by omega)]; rfl
                rw [hb] at step
                simp -dsimp [w_ltS, w_gtS, ea, ez, l1, l2, k1, k2]
                simpa using step.symm
          · rintro ys M' ⟨rfl, hy⟩
            rw [List.length_map, List.take_length] at hy
            have ew : wordB (.str z) = (z.cps.toList.all fun c => lowB c) := by
              show wordS z = _; unfold wordS
              rw [c1, decide_eq_true (by omega), decide_eq_true (by omega)]; simp
            simp -dsimp
            have h0 : decide (ys = []) = decide (ys.length = 0) := by cases ys <;> simp
            rw [ew, h0, hy]
            cases hb : (z.cps.toList.all fun c => lowB c) with
            | true =>
              have : (z.cps.toList.filter fun c => !(lowB c)) = [] := by
                rw [List.filter_eq_nil_iff]
                intro c hc
                rw [List.all_eq_true] at hb
                rw [hb c hc]; simp
              rw [this]; rfl
            | false =>
              have : (z.cps.toList.filter fun c => !(lowB c)).length ≠ 0 := by
                intro hz0
                have := List.length_eq_zero_iff.mp hz0
                rw [List.filter_eq_nil_iff] at this
                have : (z.cps.toList.all fun c => lowB c) = true := by
                  rw [List.all_eq_true]
                  intro c hc
                  have h1 := this c hc
                  cases hq : (lowB c) with
                  | true => rfl
                  | false => rw [hq] at h1; exact absurd rfl h1
                rw [this] at hb; cases hb
              rw [decide_eq_false (by omega)]
  · have hT : isT .str d = false := by cases d <;> first | rfl | exact absurd ⟨_, rfl⟩ hs
    have hF : wordB d = false := by cases d <;> first | rfl | exact absurd ⟨_, rfl⟩ hs
    simp -dsimp [w_isi h, hT, hF]

/-! ### formulas told -/
def leafB (w : Str) : Bool := decide (w = "all") || decide (w = "none")
def twoB (w : Str) : Bool := decide (w = "plus") || (decide (w = "times") || (decide (w = "meet") || (decide (w = "join") || decide (w = "then"))))
section
variable {M : MS} {Q : D → MS → Prop} {w : Str}
theorem w_memLeaf : wp (memD (.str w) (.tup [.str "all", .str "none"])) M Q = Q (.bl (leafB w)) M := by
  rw [w_memT (by rfl)]
  simp only [List.any_cons, List.any_nil, flatEq, Bool.or_false, leafB, eq_comm]
theorem w_nmemTwo : wp (nmemD (.str w) (.tup [.str "plus", .str "times", .str "meet", .str "join", .str "then"])) M Q = Q (.bl (!twoB w)) M := by
  rw [w_nmemT (by rfl)]
  simp only [List.any_cons, List.any_nil, flatEq, Bool.or_false, twoB, eq_comm]
end
def foB : Nat → D → Bool
  | 0, _ => false
  | n + 1, .tup (.str w :: as) =>
    if leafB w = true then as.isEmpty
    else if w = "name" then (match as with
      | [x] => wordB x
      | _ => false)
    else if w = "not" then (match as with
      | [x] => foB n x
      | _ => false)
    else if twoB w = true then (match as with
      | [x, y] => foB n x && foB n y
      | _ => false)
    else false
  | _ + 1, _ => false
theorem tot_item {xs : List D} {x : D} (hx : x ∈ xs) (h : tot (.tup xs) ≤ 1000000) : tot x ≤ 1000000 := by
  have := tot_mem hx
  simp only [tot] at h; omega
theorem tot_str {x : D} (h : tot x ≤ 1000000) : ∀ z, x = .str z → z.length ≤ 1000000 := by
  rintro z rfl
  simp only [tot] at h; omega
theorem plain_item {xs : List D} {x : D} (hx : x ∈ xs) (h : DL.plain (.tup xs) = true) : DL.plain x = true := by
  rw [plain_tup] at h
  exact plains_all.mp h x hx
/-! ### formulas as a type -/
inductive Wo | plus | times | meet | join | thn
  deriving DecidableEq
inductive Fo | all | none | name (z : Str) | no (a : Fo) | two (o : Wo) (a b : Fo)
  deriving DecidableEq
def Wo.s : Wo → Str
  | .plus => "plus"
  | .times => "times"
  | .meet => "meet"
  | .join => "join"
  | .thn => "then"
theorem Wo.inj : ∀ {o p : Wo}, o.s = p.s → o = p := by
  intro o p h
  cases o <;> cases p <;> first | rfl | exact absurd h (by decide)
def fD : Fo → D
  | .all => .tup [.str "all"]
  | .none => .tup [.str "none"]
  | .name z => .tup [.str "name", .str z]
  | .no a => .tup [.str "not", fD a]
  | .two o a b => .tup [.str o.s, fD a, fD b]
def fK : Fo → NestedKey
  | .all => .tup [.text "all"]
  | .none => .tup [.text "none"]
  | .name z => .tup [.text "name", .text z]
  | .no a => .tup [.text "not", fK a]
  | .two o a b => .tup [.text o.s, fK a, fK b]
def dep : Fo → Nat
  | .no a => dep a + 1
  | .two _ a b => max (dep a) (dep b) + 1
  | _ => 0
def kids : Fo → List Fo
  | .no a => [a]
  | .two _ a b => [a, b]
  | _ => []
def nod : Fo → Nat
  | .no a => nod a + 1
  | .two _ a b => nod a + nod b + 1
  | _ => 1
def fsz : Fo → Nat
  | .no a => fsz a
  | .two _ a b => fsz a + fsz b
  | _ => 1
def nms : Fo → List Str
  | .name z => [z]
  | .no a => nms a
  | .two _ a b => nms a ++ nms b
  | _ => []
theorem nk_fD : ∀ f, nk (fD f) = some (fK f)
  | .all => rfl
  | .none => rfl
  | .name z => rfl
  | .no a => by
    show (nks [.str "not", fD a]).map NestedKey.tup = _
    simp only [nks, nk, nk_fD a, Option.bind_some, Option.map_some]; rfl
  | .two o a b => by
    show (nks [.str o.s, fD a, fD b]).map NestedKey.tup = _
    simp only [nks, nk, nk_fD a, nk_fD b, Option.bind_some, Option.map_some]; rfl
theorem depth_fK : ∀ f, (fK f).depth ≤ dep f + 1
  | .all => by decide
  | .none => by decide
  | .name z => by simp [fK, NestedKey.depth, NestedKey.depthAll]
  | .no a => by
    have := depth_fK a
    simp only [fK, NestedKey.depth, NestedKey.depthAll, dep]; omega
  | .two o a b => by
    have := depth_fK a
    have := depth_fK b
    simp only [fK, NestedKey.depth, NestedKey.depthAll, dep]; omega
theorem fD_tup (f : Fo) : ∃ x xs, fD f = .tup (x :: xs) := by cases f <;> exact ⟨_, _, rfl⟩
theorem keyN_fD {f : Fo} (h : dep f ≤ 7) : keyN (fD f) = some (fK f) := by
  obtain ⟨x, xs, e⟩ := fD_tup f
  have := depth_fK f
  rw [e]
  show ((nk (.tup (x :: xs))).bind fun k => if k.depth ≤ 8 then some k else none) = _
  rw [← e, nk_fD]
  simp only [Option.bind_some]
  rw [if_pos (by omega)]
theorem fK_tup (f : Fo) : ∃ ks, fK f = .tup ks := by cases f <;> exact ⟨_, rfl⟩
theorem fK_inj : ∀ {f g : Fo}, fK f = fK g → f = g
  | .all, g, h => by cases g <;> first | rfl | (exfalso; simp only [fK, NestedKey.tup.injEq, List.cons.injEq, NestedKey.text.injEq, reduceCtorEq, and_false] at h; try exact absurd h.1 (by decide))
  | .none, g, h => by cases g <;> first | rfl | (exfalso; simp only [fK, NestedKey.tup.injEq, List.cons.injEq, NestedKey.text.injEq, reduceCtorEq, and_false] at h; try exact absurd h.1 (by decide))
  | .name z, g, h => by
    cases g with
    | name w => simp only [fK, NestedKey.tup.injEq, List.cons.injEq, NestedKey.text.injEq] at h; rw [h.2.1]
    | no a => exact absurd (by simpa [fK] using (NestedKey.tup.inj h)) (by simp [fK]; intro e; exact absurd e (by decide))
    | _ => simp [fK] at h
  | .no a, g, h => by
    cases g with
    | no b => simp only [fK, NestedKey.tup.injEq, List.cons.injEq] at h; rw [fK_inj h.2.1]
    | name w =>
      simp only [fK, NestedKey.tup.injEq, List.cons.injEq, NestedKey.text.injEq] at h
      exact absurd h.1 (by decide)
    | _ => simp [fK] at h
  | .two o a b, g, h => by
    cases g with
    | two p c d =>
      simp only [fK, NestedKey.tup.injEq, List.cons.injEq, NestedKey.text.injEq] at h
      rw [Wo.inj h.1, fK_inj h.2.1, fK_inj h.2.2.1]
    | _ => simp [fK] at h
theorem fK_iff {f g : Fo} : fK f = fK g ↔ f = g := ⟨fK_inj, fun h => by rw [h]⟩
theorem fD_inj {f g : Fo} (h : fD f = fD g) : f = g := by
  have := nk_fD f
  rw [h, nk_fD g] at this
  exact (fK_inj (Option.some.inj this)).symm
theorem dep_kids {f g : Fo} (h : g ∈ kids f) : dep g < dep f := by
  cases f <;> simp [kids] at h
  · subst h; simp [dep]
  · rcases h with rfl | rfl <;> simp [dep] <;> omega
theorem nod_kids {f g : Fo} (h : g ∈ kids f) : nod g < nod f := by
  cases f <;> simp [kids] at h
  · subst h; simp [nod]
  · rcases h with rfl | rfl <;> simp [nod] <;> omega
theorem two_pow_pos (n : Nat) : 0 < 2 ^ n := Nat.pow_pos (by decide)
theorem pow_max (a b : Nat) : 2 ^ a ≤ 2 ^ max a b ∧ 2 ^ b ≤ 2 ^ max a b := ⟨Nat.pow_le_pow_right (by decide) (Nat.le_max_left _ _), Nat.pow_le_pow_right (by decide) (Nat.le_max_right _ _)⟩
theorem nod_pos (f : Fo) : 0 < nod f := by cases f <;> simp [nod]
theorem nod_le : ∀ f, nod f + 1 ≤ 2 * 2 ^ dep f
  | .all => by decide
  | .none => by decide
  | .name z => by simp [nod, dep]
  | .no a => by have := nod_le a; have := nod_pos a; simp only [nod, dep, Nat.pow_succ]; omega
  | .two o a b => by
    have := nod_le a; have := nod_le b; have := pow_max (dep a) (dep b)
    simp only [nod, dep, Nat.pow_succ]; omega
theorem fsz_le : ∀ f, fsz f ≤ 2 ^ dep f
  | .all => by decide
  | .none => by decide
  | .name z => by simp [fsz, dep]
  | .no a => by have := fsz_le a; simp only [fsz, dep, Nat.pow_succ]; omega
  | .two o a b => by
    have := fsz_le a; have := fsz_le b; have := pow_max (dep a) (dep b)
    simp only [fsz, dep, Nat.pow_succ]; omega
theorem nms_le : ∀ f, (nms f).length ≤ fsz f
  | .all => by decide
  | .none => by decide
  | .name z => by simp [fsz, nms]
  | .no a => by simpa [fsz, nms] using nms_le a
  | .two o a b => by have := nms_le a; have := nms_le b; simp only [nms, fsz, List.length_append]; omega
theorem okB_fD : ∀ {f k}, dep f + 2 ≤ k → okB k (fD f) = true
  | .all, k, h => by obtain ⟨k, rfl⟩ : ∃ j, k = j + 2 := ⟨k - 2, by omega⟩; simp [fD, okB]
  | .none, k, h => by obtain ⟨k, rfl⟩ : ∃ j, k = j + 2 := ⟨k - 2, by omega⟩; simp [fD, okB]
  | .name z, k, h => by obtain ⟨k, rfl⟩ : ∃ j, k = j + 2 := ⟨k - 2, by omega⟩; simp [fD, okB]
  | .no a, k, h => by
    obtain ⟨k, rfl⟩ : ∃ j, k = j + 2 := ⟨k - 2, by omega⟩
    simp only [dep] at h
    have := okB_fD (f := a) (k := k + 1) (by omega)
    simp [fD, okB, this]
  | .two o a b, k, h => by
    obtain ⟨k, rfl⟩ : ∃ j, k = j + 2 := ⟨k - 2, by omega⟩
    simp only [dep] at h
    have h1 := okB_fD (f := a) (k := k + 1) (by omega)
    have h2 := okB_fD (f := b) (k := k + 1) (by omega)
    simp [fD, okB, h1, h2]
theorem okS_fD : ∀ {f k}, dep f + 2 ≤ k → okS k (fD f) = true
  | .all, k, h => by obtain ⟨k, rfl⟩ : ∃ j, k = j + 2 := ⟨k - 2, by omega⟩; simp [fD, okS]
  | .none, k, h => by obtain ⟨k, rfl⟩ : ∃ j, k = j + 2 := ⟨k - 2, by omega⟩; simp [fD, okS]
  | .name z, k, h => by obtain ⟨k, rfl⟩ : ∃ j, k = j + 2 := ⟨k - 2, by omega⟩; simp [fD, okS]
  | .no a, k, h => by
    obtain ⟨k, rfl⟩ : ∃ j, k = j + 2 := ⟨k - 2, by omega⟩
    simp only [dep] at h
    have := okS_fD (f := a) (k := k + 1) (by omega)
    simp [fD, okS, this]
  | .two o a b, k, h => by
    obtain ⟨k, rfl⟩ : ∃ j, k = j + 2 := ⟨k - 2, by omega⟩
    simp only [dep] at h
    have h1 := okS_fD (f := a) (k := k + 1) (by omega)
    have h2 := okS_fD (f := b) (k := k + 1) (by omega)
    simp [fD, okS, h1, h2]
theorem vB_fD : ∀ {f k}, dep f + 2 ≤ k → (∀ z ∈ nms f, codesB z = true) → vB k (fD f) = true
  | .all, k, h, _ => by obtain ⟨k, rfl⟩ : ∃ j, k = j + 2 := ⟨k - 2, by omega⟩; simp [fD, vB, codes_str]
  | .none, k, h, _ => by obtain ⟨k, rfl⟩ : ∃ j, k = j + 2 := ⟨k - 2, by omega⟩; simp [fD, vB, codes_str]
  | .name z, k, h, c => by obtain ⟨k, rfl⟩ : ∃ j, k = j + 2 := ⟨k - 2, by omega⟩; simp [fD, vB, codes_str, c z (by simp [nms])]
  | .no a, k, h, c => by
    obtain ⟨k, rfl⟩ : ∃ j, k = j + 2 := ⟨k - 2, by omega⟩
    simp only [dep] at h
    have := vB_fD (f := a) (k := k + 1) (by omega) c
    simp [fD, vB, codes_str, this]
  | .two o a b, k, h, c => by
    obtain ⟨k, rfl⟩ : ∃ j, k = j + 2 := ⟨k - 2, by omega⟩
    simp only [dep] at h
    simp only [nms, List.mem_append] at c
    have h1 := vB_fD (f := a) (k := k + 1) (by omega) fun z hz => c z (.inl hz)
    have h2 := vB_fD (f := b) (k := k + 1) (by omega) fun z hz => c z (.inr hz)
    have h3 : codesB o.s = true := by cases o <;> exact codes_str _
    simp [fD, vB, h1, h2, h3]
theorem szB_fD : ∀ {f k}, szB k (fD f) + 2 ≤ 5 * 2 ^ dep f
  | f, 0 => by have := two_pow_pos (dep f); simp only [szB]; omega
  | .all, 1 => by decide
  | .none, 1 => by decide
  | .name z, 1 => by simp [fD, szB, dep]
  | .no a, 1 => by have := two_pow_pos (dep a); simp only [fD, szB, dep, Nat.pow_succ, List.map_cons, List.map_nil, List.sum_cons, List.sum_nil]; omega
  | .two o a b, 1 => by have := two_pow_pos (max (dep a) (dep b)); simp only [fD, szB, dep, Nat.pow_succ, List.map_cons, List.map_nil, List.sum_cons, List.sum_nil]; omega
  | .all, k + 2 => by simp [fD, szB, dep]
  | .none, k + 2 => by simp [fD, szB, dep]
  | .name z, k + 2 => by simp [fD, szB, dep]
  | .no a, k + 2 => by
    have := szB_fD (f := a) (k := k + 1)
    have := two_pow_pos (dep a)
    have e : szB (k + 1) (.str "not") = 1 := rfl
    simp only [fD, szB.eq_1, dep, Nat.pow_succ, List.map_cons, List.map_nil, List.sum_cons, List.sum_nil, e]; omega
  | .two o a b, k + 2 => by
    have := szB_fD (f := a) (k := k + 1)
    have := szB_fD (f := b) (k := k + 1)
    have := pow_max (dep a) (dep b)
    have e : szB (k + 1) (.str o.s) = 1 := rfl
    simp only [fD, szB.eq_1, dep, Nat.pow_succ, List.map_cons, List.map_nil, List.sum_cons, List.sum_nil, e]; omega
theorem tot_fD : ∀ {f}, (∀ z ∈ nms f, z.length ≤ 12) → tot (fD f) + 100 ≤ 300 * 2 ^ dep f
  | .all, _ => by decide
  | .none, _ => by decide
  | .name z, c => by
    have := c z (by simp [nms])
    have e : tot (.str "name") = 48 := by decide
    simp only [fD, tot, tots] at e ⊢
    simp only [dep]; omega
  | .no a, c => by
    have := tot_fD (f := a) c
    have := two_pow_pos (dep a)
    have e : tot (.str "not") = 38 := by decide
    simp only [fD, tot, tots] at e ⊢
    simp only [dep, Nat.pow_succ]; omega
  | .two o a b, c => by
    simp only [nms, List.mem_append] at c
    have := tot_fD (f := a) fun z hz => c z (.inl hz)
    have := tot_fD (f := b) fun z hz => c z (.inr hz)
    have := pow_max (dep a) (dep b)
    have e : tot (.str o.s) ≤ 58 := by cases o <;> decide
    simp only [fD, tot, tots] at e ⊢
    simp only [dep, Nat.pow_succ]; omega
theorem plain_fD (f : Fo) : DL.plain (fD f) = true := okB_plain _ _ (okB_fD (Nat.le_refl _))
theorem PoolOk.mono {q : PoolS} {a b : Nat} (h : PoolOk q a) (l : a ≤ b) : PoolOk q b := ⟨h.len, h.at0, h.cnt0, by have := h.cnt1; omega, h.salt0, h.salt1⟩

/-- a drawn formula -/
theorem law_formula_ok {M : MS} {p : Nat} {ns : List Str} (hp : p < M.length) (h0 : ns ≠ []) (h1 : ns.length ≤ 1000000) : ∀ (n k : Nat) (q : PoolS) (c : Nat), n < k → PoolOk q c → c + 5 * 2 ^ n ≤ 1000000 →
    wp (R__law_formula k [.obj p, .lst (ns.map D.str), .int n]) (M.set p (poolL q)) fun r M' => ∃ f q', r = fD f ∧ dep f ≤ n ∧ (∀ z ∈ nms f, z ∈ ns) ∧ M' = M.set p (poolL q') ∧ PoolOk q' (c + (5 * 2 ^ n - 2))
  | _, 0, _, _, h, _, _ => absurd h (Nat.not_lt_zero _)
  | n, k + 1, q, c, hk, ok, hc => by
    have pw := two_pow_pos n
    unfold R__law_formula m__law_formula
    rw [w_fnB, w_sSeq]
    refine wp_mono (Q := fun r M1 => ∃ v q1, r = .nx [some (.obj p), some (.lst (ns.map D.str)), some (.int n), some (.int v), none, none, none] ∧ M1 = M.set p (poolL q1) ∧ PoolOk q1 (c + 1) ∧ 0 ≤ v ∧ v < 11 ∧ (n = 0 → v < 2)) ?_ ?_
    · cases n with
      | zero =>
        simp -dsimp
        refine wp_mono (draw_ok hp ok (by omega) (by decide) (by decide)) ?_
        rintro r M' ⟨v, q1, rfl, v0, v1, rfl, ok1⟩
        simp -dsimp
        exact ⟨q1, rfl, ok1, v0, by omega, v1⟩
      | succ n =>
        have hn : ((0:Int) < ((n + 1 : Nat) : Int)) := by omega
        generalize ((n + 1 : Nat) : Int) = nn at hn
        simp -dsimp [hn]
        refine wp_mono (draw_ok hp ok (by omega) (by decide) (by decide)) ?_
        rintro r M' ⟨v, q1, rfl, v0, v1, rfl, ok1⟩
        simp -dsimp
        exact ⟨q1, rfl, ok1, v0, v1⟩
    · rintro r M1 ⟨v, q1, rfl, rfl, ok1, v0, v1, v2⟩
      by_cases hv : v < 2
      · simp -dsimp [hv]
        refine wp_mono (draw_ok hp ok1 (by omega) (by decide) (by decide)) ?_
        rintro r M' ⟨s, q2, rfl, s0, s1, rfl, ok2⟩
        by_cases e0 : s = 0
        · simp -dsimp [e0]
          exact ⟨.all, rfl, Nat.zero_le _, by simp [nms], q2, rfl, ok2.mono (by omega)⟩
        · by_cases e1 : s = 1
          · simp -dsimp [e1]
            exact ⟨.none, rfl, Nat.zero_le _, by simp [nms], q2, rfl, ok2.mono (by omega)⟩
          · simp -dsimp [e0, e1]
            refine wp_mono (pick_ok hp ok2 (by omega) (by simpa using h0) (by simpa using h1)) ?_
            rintro r M' ⟨q3, hr, rfl, ok3⟩
            obtain ⟨z, hz, rfl⟩ := List.mem_map.mp hr
            simp -dsimp
            exact ⟨.name z, rfl, Nat.zero_le _, by simpa [nms] using hz, q3, rfl, ok3.mono (by omega)⟩
      · obtain ⟨n, rfl⟩ : ∃ m, n = m + 1 := ⟨n - 1, by omega⟩
        have hd : ((n + 1 : Nat) : Int) - 1 = (n : Int) := by omega
        have pn := two_pow_pos n
        rw [Nat.pow_succ] at hc pw ⊢
        generalize ((n + 1 : Nat) : Int) = nn at hd
        by_cases hv4 : v < 4
        · simp -dsimp [hv, hv4, hd]
          refine wp_mono (law_formula_ok hp h0 h1 n k q1 (c + 1) (by omega) ok1 (by omega)) ?_
          rintro r M' ⟨f, q2, rfl, a1, a2, rfl, ok2⟩
          simp -dsimp
          exact ⟨.no f, rfl, by simp only [dep]; omega, a2, q2, rfl, ok2.mono (by omega)⟩
        · simp -dsimp [hv, hv4, hd]
          refine wp_mono (draw_ok hp ok1 (by omega) (by decide) (by decide)) ?_
          rintro r M' ⟨s, q2, rfl, s0, s1, rfl, ok2⟩
          obtain ⟨s, rfl⟩ := Int.eq_ofNat_of_zero_le s0
          obtain ⟨o, ho⟩ : ∃ o : Wo, [D.str "plus", .str "times", .str "meet", .str "join", .str "then"][s]? = some (.str o.s) := by
            match s, s1 with
            | 0, _ => exact ⟨.plus, rfl⟩
            | 1, _ => exact ⟨.times, rfl⟩
            | 2, _ => exact ⟨.meet, rfl⟩
            | 3, _ => exact ⟨.join, rfl⟩
            | 4, _ => exact ⟨.thn, rfl⟩
            | s + 5, h => exact absurd h (by omega)
          simp -dsimp [ho, hd]
          refine wp_mono (law_formula_ok hp h0 h1 n k q2 (c + 2) (by omega) ok2 (by omega)) ?_
          rintro r M' ⟨f, q3, rfl, a1, a2, rfl, ok3⟩
          simp -dsimp [hd]
          refine wp_mono (law_formula_ok hp h0 h1 n k q3 _ (by omega) ok3 (by omega)) ?_
          rintro r M' ⟨g, q4, rfl, b1, b2, rfl, ok4⟩
          simp -dsimp
          refine ⟨.two o f g, rfl, by simp only [dep]; omega, ?_, q4, rfl, ok4.mono (by omega)⟩
          intro z hz
          exact (List.mem_append.mp hz).elim (a2 z) (b2 z)
theorem law_theory_ok {M : MS} {p : Nat} {ns : List Str} {m n : Nat} {q : PoolS} {c : Nat} (hp : p < M.length) (h0 : ns ≠ []) (h1 : ns.length ≤ 1000000) (hn : n < 4) (hm : m ≤ 100) (ok : PoolOk q c) (hc : c + 10000 ≤ 1000000) :
    wp (F__law_theory [.obj p, .lst (ns.map D.str), .int m, .int n]) (M.set p (poolL q)) fun r M' => ∃ (fs : List Fo) (q' : PoolS), r = .tup (fs.map fD) ∧ fs.length ≤ m ∧ (∀ f ∈ fs, dep f ≤ n ∧ ∀ z ∈ nms f, z ∈ ns) ∧ M' = M.set p (poolL q') ∧ PoolOk q' (c + 1 + 40 * m) := by
  unfold F__law_theory m__law_theory
  simp -dsimp
  refine wp_mono (draw_ok hp ok (by omega) (by omega) (Sm.of_lt (by omega) (by omega))) ?_
  rintro r M' ⟨v, q1, rfl, v0, v1, rfl, ok1⟩
  obtain ⟨v, rfl⟩ := Int.eq_ofNat_of_zero_le v0
  have sm := small62_nat (n := v) (by omega)
  have fv := fits_of (n := v) (by omega)
  have pn : 2 ^ n ≤ 8 := by
    have : 2 ^ n ≤ 2 ^ 3 := Nat.pow_le_pow_right (by decide) (by omega)
    omega
  simp -dsimp [sm, fv]
  refine wp_comI (fun i acc M' => ∃ (fs : List Fo) (q' : PoolS), acc = fs.map fD ∧ fs.length = i ∧ (∀ f ∈ fs, dep f ≤ n ∧ ∀ z ∈ nms f, z ∈ ns) ∧ M' = M.set p (poolL q') ∧ PoolOk q' (c + 1 + 40 * i)) ?_ ⟨[], q1, rfl, rfl, by simp, rfl, ok1⟩ ?_
  · rintro i x acc M4 hx ⟨fs, q2, rfl, hl, hf, rfl, ok2⟩
    obtain ⟨hi, rfl⟩ := rng_get hx
    simp -dsimp
    refine wp_mono (law_formula_ok hp h0 h1 n 4 q2 _ hn ok2 (by omega)) ?_
    rintro r M' ⟨f, q3, rfl, a1, a2, rfl, ok3⟩
    refine ⟨fs ++ [f], q3, by simp, by simp [hl], ?_, rfl, ok3.mono (by omega)⟩
    intro g hg
    rcases List.mem_append.mp hg with hg | hg
    · exact hf g hg
    · rw [List.mem_singleton.mp hg]; exact ⟨a1, a2⟩
  · rintro ys M' ⟨fs, q2, rfl, hl, hf, rfl, ok2⟩
    simp at hl ok2
    simp -dsimp
    exact ⟨fs, rfl, by omega, hf, q2, rfl, ok2.mono (by omega)⟩

/-! ### the parts of a formula -/
def vis (fs : List Fo) : Fo → List Fo
  | .no a => (if a ∈ fs then fs else vis fs a) ++ [.no a]
  | .two o a b => (if b ∈ (if a ∈ fs then fs else vis fs a) then (if a ∈ fs then fs else vis fs a) else vis (if a ∈ fs then fs else vis fs a) b) ++ [.two o a b]
  | f => fs ++ [f]
def vi (fs : List Fo) (f : Fo) : List Fo := if f ∈ fs then fs else vis fs f
theorem vis_no {fs : List Fo} {a : Fo} : vis fs (.no a) = vi fs a ++ [.no a] := rfl
theorem vis_two {fs : List Fo} {o : Wo} {a b : Fo} : vis fs (.two o a b) = vi (vi fs a) b ++ [.two o a b] := rfl
theorem vis_mem (fs : List Fo) (f : Fo) : f ∈ vis fs f := by cases f <;> simp [vis]
theorem vi_mem (fs : List Fo) (f : Fo) : f ∈ vi fs f := by
  unfold vi; split
  · assumption
  · exact vis_mem _ _
mutual
theorem vis_sub : ∀ (f : Fo) {fs : List Fo} {g : Fo}, g ∈ fs → g ∈ vis fs f
  | .no a, fs, g, h => by rw [vis_no]; exact List.mem_append_left _ (vi_sub a h)
  | .two o a b, fs, g, h => by rw [vis_two]; exact List.mem_append_left _ (vi_sub b (vi_sub a h))
  | .all, fs, g, h => List.mem_append_left _ h
  | .none, fs, g, h => List.mem_append_left _ h
  | .name _, fs, g, h => List.mem_append_left _ h
theorem vi_sub (f : Fo) {fs : List Fo} {g : Fo} (h : g ∈ fs) : g ∈ vi fs f := by
  unfold vi; split
  · exact h
  · exact vis_sub f h
end
/-- the formulas of which a formula is put together -/
def subs : Fo → List Fo
  | .no a => subs a ++ [.no a]
  | .two o a b => subs a ++ subs b ++ [.two o a b]
  | f => [f]
theorem subs_nod : ∀ (f : Fo) {g : Fo}, g ∈ subs f → nod g ≤ nod f
  | .no a, g, h => by
    rcases List.mem_append.mp h with h | h
    · have := subs_nod a h; simp only [nod]; omega
    · rw [List.mem_singleton.mp h]; exact Nat.le_refl _
  | .two o a b, g, h => by
    rcases List.mem_append.mp h with h | h
    · rcases List.mem_append.mp h with h | h
      · have := subs_nod a h; simp only [nod]; omega
      · have := subs_nod b h; simp only [nod]; omega
    · rw [List.mem_singleton.mp h]; exact Nat.le_refl _
  | .all, g, h => by rw [List.mem_singleton.mp h]; exact Nat.le_refl _
  | .none, g, h => by rw [List.mem_singleton.mp h]; exact Nat.le_refl _
  | .name _, g, h => by rw [List.mem_singleton.mp h]; exact Nat.le_refl _
mutual
theorem vis_in : ∀ (f : Fo) {fs : List Fo} {g : Fo}, g ∈ vis fs f → g ∈ fs ∨ g ∈ subs f
  | .no a, fs, g, h => by
    rw [vis_no] at h
    rcases List.mem_append.mp h with h | h
    · exact (vi_in a h).imp id fun z => List.mem_append_left _ z
    · exact .inr (List.mem_append_right _ h)
  | .two o a b, fs, g, h => by
    rw [vis_two] at h
    rcases List.mem_append.mp h with h | h
    · rcases vi_in b h with h | h
      · exact (vi_in a h).imp id fun z => List.mem_append_left _ (List.mem_append_left _ z)
      · exact .inr (List.mem_append_left _ (List.mem_append_right _ h))
    · exact .inr (List.mem_append_right _ h)
  | .all, fs, g, h => List.mem_append.mp h
  | .none, fs, g, h => List.mem_append.mp h
  | .name _, fs, g, h => List.mem_append.mp h
theorem vi_in (f : Fo) {fs : List Fo} {g : Fo} (h : g ∈ vi fs f) : g ∈ fs ∨ g ∈ subs f := by
  unfold vi at h; split at h
  · exact .inl h
  · exact vis_in f h
end
theorem vi_not {fs : List Fo} {f g : Fo} (h : g ∉ fs) (hn : nod f < nod g) : g ∉ vi fs f := fun z => (vi_in f z).elim h fun z => by have := subs_nod f z; omega
mutual
theorem vis_len : ∀ (f : Fo) {fs : List Fo}, (vis fs f).length ≤ fs.length + nod f
  | .no a, fs => by have := vi_len a (fs := fs); rw [vis_no]; simp only [List.length_append, List.length_cons, List.length_nil, nod]; omega
  | .two o a b, fs => by have := vi_len a (fs := fs); have := vi_len b (fs := vi fs a); rw [vis_two]; simp only [List.length_append, List.length_cons, List.length_nil, nod]; omega
  | .all, fs => by simp [vis, nod]
  | .none, fs => by simp [vis, nod]
  | .name _, fs => by simp [vis, nod]
theorem vi_len (f : Fo) {fs : List Fo} : (vi fs f).length ≤ fs.length + nod f := by
  unfold vi; split
  · omega
  · exact vis_len f
end
/-- each formula stands behind those of which it is put together, and once -/
inductive Ord : List Fo → Prop
  | nil : Ord []
  | snoc {l : List Fo} {f : Fo} : Ord l → (∀ h ∈ kids f, h ∈ l) → f ∉ l → Ord (l ++ [f])
mutual
theorem vis_ord : ∀ (f : Fo) {fs : List Fo}, Ord fs → f ∉ fs → Ord (vis fs f)
  | .no a, fs, o, n => by
    rw [vis_no]
    refine .snoc (vi_ord a o) (fun h hh => ?_) (vi_not n (by simp only [nod]; omega))
    rw [List.mem_singleton.mp hh]; exact vi_mem _ _
  | .two w a b, fs, o, n => by
    rw [vis_two]
    have n1 : Fo.two w a b ∉ vi fs a := vi_not n (by simp only [nod]; omega)
    refine .snoc (vi_ord b (vi_ord a o)) (fun h hh => ?_) (vi_not n1 (by simp only [nod]; omega))
    simp only [kids, List.mem_cons, List.not_mem_nil, or_false] at hh
    rcases hh with rfl | rfl
    · exact vi_sub b (vi_mem _ _)
    · exact vi_mem _ _
  | .all, fs, o, n => .snoc o (fun h hh => by simp [kids] at hh) n
  | .none, fs, o, n => .snoc o (fun h hh => by simp [kids] at hh) n
  | .name _, fs, o, n => .snoc o (fun h hh => by simp [kids] at hh) n
theorem vi_ord (f : Fo) {fs : List Fo} (o : Ord fs) : Ord (vi fs f) := by
  unfold vi; split
  · exact o
  · exact vis_ord f o (by assumption)
end
theorem Ord.nodup {l : List Fo} (o : Ord l) : l.Nodup := by
  induction o with
  | nil => exact List.nodup_nil
  | snoc _ _ n ih => exact List.nodup_append.mpr ⟨ih, List.nodup_cons.mpr ⟨List.not_mem_nil, List.nodup_nil⟩, fun a ha b hb e => n (by rw [← List.mem_singleton.mp hb, ← e]; exact ha)⟩
theorem Ord.closed {l : List Fo} (o : Ord l) : ∀ f ∈ l, ∀ g ∈ kids f, g ∈ l := by
  induction o with
  | nil => intro f h; cases h
  | snoc _ k _ ih =>
    intro f hf g hg
    rcases List.mem_append.mp hf with hf | hf
    · exact List.mem_append_left _ (ih f hf g hg)
    · rw [List.mem_singleton.mp hf] at hg; exact List.mem_append_left _ (k g hg)
theorem Ord.names {l : List Fo} (o : Ord l) {z : Str} : ∀ f ∈ l, z ∈ nms f → Fo.name z ∈ l
  | .name w, hf, hz => by rw [List.mem_singleton.mp hz]; exact hf
  | .no a, hf, hz => o.names a (o.closed _ hf a (by simp [kids])) hz
  | .two w a b, hf, hz => (List.mem_append.mp hz).elim (o.names a (o.closed _ hf a (by simp [kids]))) (o.names b (o.closed _ hf b (by simp [kids])))
theorem Ord.take {l : List Fo} (o : Ord l) : ∀ {i : Nat} {f : Fo}, l[i]? = some f → (∀ g ∈ kids f, g ∈ l.take i) ∧ f ∉ l.take i := by
  induction o with
  | nil => intro i f h; cases h
  | @snoc l f _ k n ih =>
    intro i g h
    by_cases c : i < l.length
    · rw [List.getElem?_append_left c] at h
      have := ih h
      rw [List.take_append_of_le_length (by omega)]
      exact this
    · have hl := (List.getElem?_eq_some_iff.mp h).1
      simp only [List.length_append, List.length_cons, List.length_nil] at hl
      have e : i = l.length := by omega
      subst e
      rw [List.getElem?_append_right (Nat.le_refl _)] at h
      simp at h
      subst h
      rw [List.take_left']
      · exact ⟨k, n⟩
      · rfl
theorem subs_names {z : Str} : ∀ {f : Fo}, Fo.name z ∈ subs f → z ∈ nms f
  | .name w, h => by have := List.mem_singleton.mp h; cases this; exact List.mem_singleton.mpr rfl
  | .no a, h => by
    rcases List.mem_append.mp h with h | h
    · exact subs_names (f := a) h
    · cases List.mem_singleton.mp h
  | .two o a b, h => by
    rcases List.mem_append.mp h with h | h
    · exact List.mem_append.mpr ((List.mem_append.mp h).imp subs_names subs_names)
    · cases List.mem_singleton.mp h
  | .all, h => by cases List.mem_singleton.mp h
  | .none, h => by cases List.mem_singleton.mp h
theorem vis_names {f : Fo} {z : Str} : Fo.name z ∈ vis [] f ↔ z ∈ nms f :=
  ⟨fun h => (vis_in f h).elim (fun h => nomatch h) subs_names, fun h => (vis_ord f .nil List.not_mem_nil).names f (vis_mem _ _) h⟩
/-- a dict with formulas for keys -/
def ents (v : Fo → D) (fs : List Fo) : List (NestedKey × D × D) := fs.map fun f => (fK f, fD f, v f)
theorem getF_ents (v : Fo → D) (f : Fo) : ∀ fs : List Fo, DL.getF (ents v fs) (fK f) = if f ∈ fs then some (v f) else none
  | [] => rfl
  | g :: fs => by
    have ih := getF_ents v f fs
    unfold DL.getF ents at *
    simp only [List.map_cons, List.find?_cons]
    by_cases c : g = f
    · subst c; simp
    · have : decide (fK g = fK f) = false := decide_eq_false fun h => c (fK_inj h)
      rw [this]
      simp only [ih]
      have : (f ∈ g :: fs) ↔ f ∈ fs := by simp [List.mem_cons, Ne.symm c, eq_comm]
      simp only [this]
theorem putF_ents (v : Fo → D) {f : Fo} {fs : List Fo} (h : f ∉ fs) : DL.putF (ents v fs) (fK f) (fD f) (v f) = ents v (fs ++ [f]) := by
  unfold DL.putF
  rw [getF_ents, if_neg h]
  simp [ents]

theorem wp_sWh1 {t : Rho → Mo Bool} {b : XS} {ρ : Rho} {M : MS} {QF : Fl → MS → Prop} (h : wp (t ρ) M fun c M1 => if c = true then wp (b ρ) M1 fun fl M2 => (match fl with
    | .nx ρ2 => wp (sWh t b ρ2) M2 QF
    | .ct ρ2 => wp (sWh t b ρ2) M2 QF
    | .bk ρ2 => QF (.nx ρ2) M2
    | .rt d => QF (.rt d) M2)
  else QF (.nx ρ) M1) : wp (sWh t b ρ) M QF := by
  obtain ⟨c, M1, e1, h1⟩ := h
  cases c with
  | false =>
    simp only [Bool.false_eq_true, if_false] at h1
    exact ⟨_, _, sWh_false e1, h1⟩
  | true =>
    simp only [if_true] at h1
    obtain ⟨fl, M2, e2, h2⟩ := h1
    have key : ∀ r, (match fl with
      | .nx ρ2 => sWh t b ρ2
      | .ct ρ2 => sWh t b ρ2
      | .bk ρ2 => Mo.ret (.nx ρ2)
      | .rt d => Mo.ret (.rt d) : Mo Fl) M2 = some r → sWh t b ρ M = some r := fun r hr => sWh_step (by
      rw [Mo.bnd_of e1]
      simp only [if_true]
      rw [Mo.bnd_of e2]
      exact hr)
    cases fl with
    | nx ρ2 => obtain ⟨r, M3, e3, q⟩ := h2; exact ⟨r, M3, key _ e3, q⟩
    | ct ρ2 => obtain ⟨r, M3, e3, q⟩ := h2; exact ⟨r, M3, key _ e3, q⟩
    | bk ρ2 => exact ⟨_, _, key _ rfl, h2⟩
    | rt d => exact ⟨_, _, key _ rfl, h2⟩

def leafW (z : Str) : Bool := [D.str "all", .str "none", .str "name"].any fun y => flatEq y (.str z)
theorem w_mem3 {z : Str} {M : MS} {Q : D → MS → Prop} : wp (memD (.str z) (.tup [.str "all", .str "none", .str "name"])) M Q = Q (.bl (leafW z)) M := w_memT rfl
theorem leafW_two (o : Wo) : leafW o.s = false := by cases o <;> decide
theorem leafW_all : leafW "all" = true := by decide
theorem leafW_none : leafW "none" = true := by decide
theorem leafW_name : leafW "name" = true := by decide
theorem leafW_not : leafW "not" = false := by decide
theorem parts_below_ok (f : Fo) (M : MS) : F_parts_below [fD f] M = some (.ok (.tup ((kids f).map fD)), M) := by
  refine wp_val ?_
  unfold F_parts_below m_parts_below
  cases f <;> simp -dsimp [-w_memT, w_mem3, fD, kids, leafW_all, leafW_none, leafW_name, leafW_not, leafW_two]
theorem w_ixO {M : MS} {Q : D → MS → Prop} {n : Nat} {xs : List D} {i : Int} (h : M[n]? = some (.lst xs)) : wp (ixD (.obj n) (.int i)) M Q = wp (Mo.opt (atI xs i)) M Q := by
  cases e : atI xs i with
  | none =>
    refine propext ⟨fun ⟨_, _, z, _⟩ => ?_, fun ⟨_, _, z, _⟩ => nomatch z⟩
    unfold ixD at z
    simp only [seqOf, lstOf, h, e] at z
    cases z
  | some v =>
    rw [w_opt]
    exact wp_of (by unfold ixD; simp only [seqOf, lstOf, h, e])
theorem atI_last {xs : List D} {x : D} : atI (xs ++ [x]) (-1) = some x := by
  unfold atI ixN
  rw [if_neg (by omega), if_pos (by simp; omega)]
  simp only [List.length_append, List.length_cons, List.length_nil]
  rw [show (-1 + ((xs.length + (0 + 1) : Nat) : Int)).toNat = xs.length by omega]
  simp
theorem w_setF {M : MS} {Q : Unit → MS → Prop} {n : Nat} {kvs : List (NestedKey × D × D)} {e v : D} {k : NestedKey} (h : M[n]? = some (.dF kvs)) (hk : keyN e = some k) (hl : kvs.length ≤ sizeLine) : wp (setD (.obj n) e v) M Q = Q () (M.set n (.dF (DL.putF kvs k e v))) := wp_of (by
  have : dPut M (.obj n) e v = some (M.set n (.dF (DL.putF kvs k e v))) := by unfold dPut; simp only [h, hk, Option.bind_some, if_pos hl]
  obtain ⟨ds, rfl, _⟩ := keyN_tup hk
  unfold setD
  simp only [this]
  rfl)
theorem w_nmemF {M : MS} {Q : D → MS → Prop} {n : Nat} {v : Fo → D} {fs : List Fo} {f : Fo} (h : M[n]? = some (.dF (ents v fs))) (hd : dep f ≤ 7) : wp (nmemD (fD f) (.obj n)) M Q = Q (.bl (!decide (f ∈ fs))) M := w_nmem (by
  unfold memB dAt
  simp only [h, keyN_fD hd, Option.map_some, getF_ents]
  split <;> simp_all)
noncomputable abbrev tW : Rho → Mo Bool := tV (e2 gtD (eB lenD [eV 2]) (eC (.int 0)))
noncomputable abbrev bW : XS := sSeq (sAsg (eLc (iS (eB F_parts_below [e2 ixD (eV 2) (e1 negD (eC (.int 1)))])) (.one 4) (tV (e2 nmemD (eV 4) (eV 1))) (eV 4) [4]) (gN 3)) (sIf (tV (e2 gtD (eB lenD [eV 3]) (eC (.int 0)))) (sExpr (eM isObL appL (eV 2) [e2 ixD (eV 3) (eC (.int 0))])) (sAsg (eC (.bl true)) (gS (eV 1) (eM isObL popL (eV 2) []))))
theorem visit_step {M : MS} {x : Option D} {Q : Fl → MS → Prop} (f : Fo) (fs st : List Fo) (z : Option D) (hf : f ∉ fs) (hd : dep f ≤ 7) (hl : fs.length < 100000) (hs : st.length < 1000)
    (k1 : ∀ c r, (kids f).filter (fun c => !decide (c ∈ fs)) = c :: r → ∀ z, wp (sWh tW bW [x, some (.obj M.length), some (.obj (M.length + 1)), z, none]) (M ++ [.dF (ents (fun _ => .bl true) fs), .lst ((st ++ [f] ++ [c]).map fD)]) Q)
    (k2 : (kids f).filter (fun c => !decide (c ∈ fs)) = [] → ∀ z, wp (sWh tW bW [x, some (.obj M.length), some (.obj (M.length + 1)), z, none]) (M ++ [.dF (ents (fun _ => .bl true) (fs ++ [f])), .lst (st.map fD)]) Q) :
    wp (sWh tW bW [x, some (.obj M.length), some (.obj (M.length + 1)), z, none]) (M ++ [.dF (ents (fun _ => .bl true) fs), .lst ((st ++ [f]).map fD)]) Q := by
  have g1 : ∀ (a b : MO), (M ++ [a, b])[M.length]? = some a := fun a b => by simp
  have g2 : ∀ (a b : MO), (M ++ [a, b])[M.length + 1]? = some b := fun a b => by simp
  have s1 : ∀ (a b c : MO), (M ++ [a, b]).set M.length c = M ++ [c, b] := fun a b c => by simp
  have s2 : ∀ (a b c : MO), (M ++ [a, b]).set (M.length + 1) c = M ++ [a, c] := fun a b c => by simp
  refine wp_sWh1 ?_
  have n0 : (0 : Int) < (((st.map fD ++ [fD f]).length : Nat) : Int) := by simp <;> omega
  rw [List.map_append, List.map_cons, List.map_nil] at *
  simp -dsimp only [w_tV, w_e2, w_eB, w_aLc, w_aLn, w_eV, w_eC, w_opt, List.getElem?_cons_succ, List.getElem?_cons_zero, Option.join_some, w_lenO (g2 _ _), w_gt, w_bOf, n0, decide_true, if_true]
  have fk : fits ((kids f).map fD).length = true := fits_of (by cases f <;> simp [kids])
  simp -dsimp [w_lenO (g2 _ _), w_ixO (g2 _ _), atI_last, wp_of (parts_below_ok f _)]
  refine ⟨by simpa using fk, ?_⟩
  refine wp_comI (fun i acc M' => M' = M ++ [.dF (ents (fun _ => .bl true) fs), .lst (st.map fD ++ [fD f])] ∧ acc = (((kids f).take i).filter (fun c => !decide (c ∈ fs))).map fD) ?_ ⟨rfl, rfl⟩ ?_
  · rintro i y acc M' hy ⟨rfl, rfl⟩
    rw [List.getElem?_map] at hy
    obtain ⟨c, hc, rfl⟩ := Option.map_eq_some_iff.mp hy
    have dc := dep_kids (List.mem_of_getElem? hc)
    simp -dsimp [w_nmemF (v := fun _ => .bl true) (fs := fs) (g1 _ _) (show dep c ≤ 7 by omega)]
    rw [List.take_succ, hc, List.filter_append]
    by_cases hm : c ∈ fs
    · simp [hm]
    · simp [hm]
  · rintro ys M' ⟨rfl, rfl⟩
    rw [List.length_map, List.take_length]
    have ob : isObL (M ++ [MO.dF (ents (fun x => D.bl true) fs), MO.lst (List.map fD st ++ [fD f])]) (D.obj (List.length M + 1)) = true := by unfold isObL; simp only [g2]
    cases e : (kids f).filter (fun c => !decide (c ∈ fs)) with
    | nil =>
      simp -dsimp
      refine ⟨ob, ?_⟩
      have lst : (st.map fD ++ [fD f])[(st.map fD ++ [fD f]).length - 1]? = some (fD f) := by simp
      rw [w_pop (g2 _ _) lst, s2, w_setF (g1 _ _) (keyN_fD hd) (by rw [sizeLine_eq]; simp [ents]; omega), s1, putF_ents (fun _ => .bl true) hf]
      rw [List.dropLast_concat]
      exact k2 e _
    | cons c r =>
      simp -dsimp
      refine ⟨ob, ?_⟩
      rw [w_app (g2 _ _) (fits_of (by simp; omega)), s2]
      have := k1 c r e (some (.lst ((c :: r).map fD)))
      rw [List.map_append, List.map_append] at this
      exact this
theorem visit_ok {M : MS} {x : Option D} {Q : Fl → MS → Prop} : ∀ (f : Fo) (fs st : List Fo) (z : Option D), f ∉ fs → dep f ≤ 7 → fs.length + nod f ≤ 100000 → st.length + dep f < 1000 →
    (∀ z, wp (sWh tW bW [x, some (.obj M.length), some (.obj (M.length + 1)), z, none]) (M ++ [.dF (ents (fun _ => .bl true) (vis fs f)), .lst (st.map fD)]) Q) →
    wp (sWh tW bW [x, some (.obj M.length), some (.obj (M.length + 1)), z, none]) (M ++ [.dF (ents (fun _ => .bl true) fs), .lst ((st ++ [f]).map fD)]) Q
  | .all, fs, st, z, hf, hd, hl, hs, k => visit_step _ fs st z hf hd (by simp only [nod] at hl; omega) (by omega) (fun c r e => by cases e) (fun _ => k)
  | .none, fs, st, z, hf, hd, hl, hs, k => visit_step _ fs st z hf hd (by simp only [nod] at hl; omega) (by omega) (fun c r e => by cases e) (fun _ => k)
  | .name _, fs, st, z, hf, hd, hl, hs, k => visit_step _ fs st z hf hd (by simp only [nod] at hl; omega) (by omega) (fun c r e => by cases e) (fun _ => k)
  | .no a, fs, st, z, hf, hd, hl, hs, k => by
    simp only [nod, dep] at hl hd hs
    by_cases ha : a ∈ fs
    · refine visit_step _ fs st z hf (by simp only [dep]; omega) (by omega) (by omega) (fun c r e => by simp [kids, ha] at e) (fun _ => ?_)
      rw [vis_no, vi, if_pos ha] at k
      exact k
    · refine visit_step _ fs st z hf (by simp only [dep]; omega) (by omega) (by omega) (fun c r e z => ?_) (fun e => by simp [kids, ha] at e)
      obtain ⟨rfl, -⟩ : a = c ∧ [] = r := by simpa [kids, ha] using e
      refine visit_ok a fs (st ++ [.no a]) z ha (by omega) (by omega) (by simp; omega) (fun z => ?_)
      have l1 := vis_len a (fs := fs)
      have n1 : Fo.no a ∉ vis fs a := by have := vi_not (f := a) hf (by simp only [nod]; omega); rwa [vi, if_neg ha] at this
      refine visit_step _ _ st z n1 (by simp only [dep]; omega) (by omega) (by omega) (fun c r e => by simp [kids, vis_mem] at e) (fun _ => ?_)
      rw [vis_no, vi, if_neg ha] at k
      exact k
  | .two o a b, fs, st, z, hf, hd, hl, hs, k => by
    simp only [nod, dep] at hl hd hs
    have da : dep a < 8 ∧ dep b < 8 := by omega
    have dt : dep (Fo.two o a b) ≤ 7 := by simp only [dep]; omega
    have second : ∀ (gs : List Fo) (z : Option D), gs = vi fs a → wp (sWh tW bW [x, some (.obj M.length), some (.obj (M.length + 1)), z, none]) (M ++ [.dF (ents (fun _ => .bl true) gs), .lst ((st ++ [Fo.two o a b]).map fD)]) Q := by
      rintro gs z rfl
      have l1 := vi_len a (fs := fs)
      have n1 : Fo.two o a b ∉ vi fs a := vi_not hf (by simp only [nod]; omega)
      have ha := vi_mem fs a
      by_cases hb : b ∈ vi fs a
      · refine visit_step _ _ st z n1 dt (by omega) (by omega) (fun c r e => by simp [kids, ha, hb] at e) (fun _ => ?_)
        rw [vis_two, vi, if_pos hb] at k
        exact k
      · refine visit_step _ _ st z n1 dt (by omega) (by omega) (fun c r e z => ?_) (fun e => by simp [kids, ha, hb] at e)
        obtain ⟨rfl, -⟩ : b = c ∧ [] = r := by simpa [kids, ha, hb] using e
        refine visit_ok b _ (st ++ [Fo.two o a b]) z hb (by omega) (by omega) (by simp; omega) (fun z => ?_)
        have l2 := vis_len b (fs := vi fs a)
        have n2 : Fo.two o a b ∉ vis (vi fs a) b := by have := vi_not (f := b) n1 (by simp only [nod]; omega); rwa [vi, if_neg hb] at this
        refine visit_step _ _ st z n2 dt (by omega) (by omega) (fun c r e => by simp [kids, vis_mem, vis_sub b ha] at e) (fun _ => ?_)
        rw [vis_two, vi, if_neg hb] at k
        exact k
    by_cases ha : a ∈ fs
    · exact second fs z (by rw [vi, if_pos ha])
    · have ex : ∃ r, (kids (Fo.two o a b)).filter (fun c => !decide (c ∈ fs)) = a :: r := ⟨_, by simp [kids, ha]; rfl⟩
      obtain ⟨r0, er⟩ := ex
      refine visit_step _ fs st z hf dt (by omega) (by omega) (fun c r e z => ?_) (fun e => by rw [er] at e; cases e)
      rw [er] at e
      cases e
      refine visit_ok a fs (st ++ [Fo.two o a b]) z ha (by omega) (by omega) (by simp; omega) (fun z => second _ z ?_)
      rw [vi, if_neg ha]
theorem parts_of_ok {f : Fo} (hd : dep f ≤ 7) (M : MS) : F_parts_of [fD f] M = some (.ok (.lst ((vis [] f).map fD)), M) := by
  have hn : nod f ≤ 1000 := by
    have := nod_le f
    have : 2 ^ dep f ≤ 2 ^ 7 := Nat.pow_le_pow_right (by decide) hd
    omega
  have key : wp (fnB 5 (m_parts_of F_parts_below) [fD f]) M fun r M' => r = .lst ((vis [] f).map fD) ∧ M' = M ++ [.dF (ents (fun _ => .bl true) (vis [] f)), .lst []] := by
    unfold m_parts_of
    simp -dsimp
    have e1 : (M ++ [MO.dF []] ++ [MO.lst [fD f]]) = M ++ [.dF (ents (fun _ => .bl true) []), .lst (([] ++ [f]).map fD)] := by simp [ents]
    simp only [List.append_assoc, List.cons_append, List.nil_append] at e1
    rw [e1]
    refine visit_ok f [] [] _ List.not_mem_nil hd (by simp; omega) (by simp; omega) (fun z => ?_)
    refine wp_sWh1 ?_
    have g1 : ∀ (a b : MO), (M ++ [a, b])[M.length]? = some a := fun a b => by simp
    have g2 : ∀ (a b : MO), (M ++ [a, b])[M.length + 1]? = some b := fun a b => by simp
    have l1 := vis_len f (fs := [])
    have lk : listD [.obj M.length] (M ++ [MO.dF (ents (fun _ => .bl true) (vis [] f)), MO.lst []]) = some (.ok (.lst ((vis [] f).map fD)), M ++ [MO.dF (ents (fun _ => .bl true) (vis [] f)), MO.lst []]) := by
      unfold listD dKeys
      simp only [seqOf, lstOf, g1]
      rw [if_pos (by rw [sizeLine_eq]; simp [ents]; simp at l1; omega)]
      simp [ents]
    simp -dsimp [w_lenO (g2 _ _), wp_of lk]
  obtain ⟨r, M', e, rfl, rfl⟩ := key
  unfold F_parts_of
  refine truncF_same (M := M) (M2 := M) (junk := [.dF (ents (fun _ => .bl true) (vis [] f)), .lst []]) e rfl (fun mo h => .inl h) ?_
  refine bd_plain _ _ ?_
  rw [plain_lst]
  refine plains_all.mpr fun y hy => ?_
  obtain ⟨g, _, rfl⟩ := List.mem_map.mp hy
  exact plain_fD g

theorem setS_all : ∀ (l acc : List Str), acc.Nodup → (l.foldl putS acc).Nodup ∧ ∀ z, z ∈ l.foldl putS acc ↔ z ∈ acc ∨ z ∈ l
  | [], acc, h => ⟨h, fun z => by simp⟩
  | x :: l, acc, h => by
    obtain ⟨a, b⟩ := setS_all l (putS acc x) (putS_nodup h)
    refine ⟨a, fun z => ?_⟩
    rw [List.foldl_cons, b z, putS_mem, List.mem_cons, or_assoc]
theorem setS_nodup (l : List Str) : (setS l).Nodup := (setS_all l [] List.nodup_nil).1
theorem setS_mem {l : List Str} {z : Str} : z ∈ setS l ↔ z ∈ l := by
  have := (setS_all l [] List.nodup_nil).2 z
  exact this.trans (by simp)
theorem perm_of_mem {l m : List Str} (hl : l.Nodup) (hm : m.Nodup) (h : ∀ z, z ∈ l ↔ z ∈ m) : l.Perm m := (List.perm_ext_iff_of_nodup hl hm).mpr h
theorem srtS_eq {l m : List Str} (hl : l.Nodup) (hm : m.Nodup) (h : ∀ z, z ∈ l ↔ z ∈ m) : srtS l = srtS m :=
  asc_uniq ((srtS_perm l).trans ((perm_of_mem hl hm h).trans (srtS_perm m).symm)) (srtS_asc l) (srtS_asc m)
/-- the names of some formulas, each once, in order -/
def namesS (fs : List Fo) : List Str := srtS (setS (fs.flatMap nms))
/-- the names among formulas -/
def namesL : List Fo → List Str
  | [] => []
  | .name z :: l => z :: namesL l
  | _ :: l => namesL l
theorem namesL_mem {z : Str} : ∀ {l : List Fo}, z ∈ namesL l ↔ Fo.name z ∈ l
  | [] => by simp [namesL]
  | f :: l => by cases f <;> simp [namesL, namesL_mem]
theorem namesL_app : ∀ (l m : List Fo), namesL (l ++ m) = namesL l ++ namesL m
  | [], m => rfl
  | f :: l, m => by cases f <;> simp [namesL, namesL_app]
theorem namesL_len : ∀ l : List Fo, (namesL l).length ≤ l.length
  | [] => Nat.le_refl _
  | f :: l => by have := namesL_len l; cases f <;> simp [namesL] <;> omega
def hw : Fo → Str
  | .all => "all"
  | .none => "none"
  | .name _ => "name"
  | .no _ => "not"
  | .two o _ _ => o.s
theorem fD_eq {f : Fo} (h : ∀ z, f ≠ .name z) : fD f = .tup (.str (hw f) :: (kids f).map fD) := by
  cases f <;> first | rfl | exact absurd rfl (h _)
theorem fD_hw (f : Fo) : ∃ xs, fD f = .tup (.str (hw f) :: xs) := by cases f <;> exact ⟨_, rfl⟩
theorem hw_name {f : Fo} (h : ∀ z, f ≠ .name z) : decide (hw f = "name") = false := by
  cases f with
  | name z => exact absurd rfl (h z)
  | two o _ _ => show decide (o.s = "name") = false; cases o <;> decide
  | no _ => show decide (("not" : Str) = "name") = false; decide
  | all => decide
  | none => decide
theorem nms_kids {f : Fo} (h : ∀ z, f ≠ .name z) : nms f = (kids f).flatMap nms := by
  cases f <;> first | (exact absurd rfl (h _)) | simp [nms, kids]
theorem name_or (f : Fo) : (∃ z, f = .name z) ∨ ∀ z, f ≠ .name z := by
  cases f <;> first | exact .inl ⟨_, rfl⟩ | exact .inr fun _ h => by cases h
theorem wp_loopN {α : Type} {g : CT} {t : Rho → Mo Bool} {inner : Rho → Mo (List D)} {ρ0 : Rho} {s : List D} {M : MS} {mk : α → D} {F : α → List D} : ∀ (xs : List α) (Q : List D → MS → Prop),
    (∀ x ∈ xs, wp (g.put (mk x) ρ0) M fun ρ1 M1 => wp (t ρ1) M1 fun c M2 => c = true ∧ wp (inner ρ1) M2 fun ys M3 => ys = F x ∧ M3 = M) → Q (xs.flatMap F) M → wp (loopN g t inner (.frz s) ρ0 (xs.map mk)) M Q
  | [], Q, _, hq => by rw [List.map_nil]; unfold loopN; rw [w_ret]; exact hq
  | x :: xs, Q, h, hq => by
    rw [List.map_cons]
    unfold loopN
    rw [w_bnd]
    refine wp_mono (h x List.mem_cons_self) fun ρ1 M1 h1 => ?_
    rw [w_bnd]
    refine wp_mono h1 ?_
    rintro c M2 ⟨rfl, h2⟩
    simp only [if_true]
    rw [w_bnd]
    refine wp_mono h2 ?_
    rintro ys M3 ⟨rfl, rfl⟩
    rw [w_bnd, w_chk, w_bnd]
    refine wp_loopN xs _ (fun x hx => h x (List.mem_cons_of_mem _ hx)) ?_
    rw [w_ret]
    rw [List.flatMap_cons] at hq
    exact hq
theorem wp_eSrt2 {it it1 : Rho → Mo Src} {g g1 : CT} {t t1 : Rho → Mo Bool} {e : XE} {own own1 : List Nat} {ρ : Rho} {M : MS} {Q : D → MS → Prop} (h : wp (it ρ) M fun s M1 => wp (chk s) M1 fun _ M2 => wp (loopN g t (inC it1 g1 t1 e own1) s (wipeR ρ own) s.xs) M2 fun ys M3 => ∃ ss, strsOf ys = some ss ∧ (setS ss).length < 64 ∧ ss.length < 4096 ∧ Q (.lst ((srtS (setS ss)).map D.str)) M3) : wp (eSrt2 it g t it1 g1 t1 e own own1 ρ) M Q := by
  unfold eSrt2
  rw [w_bnd]
  refine wp_mono h fun s M1 h1 => ?_
  rw [w_bnd]
  refine wp_mono h1 fun _ M2 h2 => ?_
  rw [w_bnd, w_noex]
  refine wp_mono h2 ?_
  rintro ys M3 ⟨ss, e1, e2, e3, q⟩
  simp only [e1]
  rw [if_pos ⟨e2, e3⟩, w_ret]
  exact q
theorem wp_inC {it1 : Rho → Mo Src} {g1 : CT} {t1 : Rho → Mo Bool} {e : XE} {own1 : List Nat} {ρ : Rho} {M : MS} {Q : List D → MS → Prop} (h : wp (it1 ρ) M fun s M1 => wp (chk s) M1 fun _ M2 => wp (loopC g1 t1 e s (wipeR ρ own1) s.xs) M2 Q) : wp (inC it1 g1 t1 e own1 ρ) M Q := by
  unfold inC
  rw [w_bnd]
  refine wp_mono h fun s M1 h1 => ?_
  rw [w_bnd]
  exact wp_mono h1 fun _ M2 h2 => h2
theorem srt_vis (fs : List Fo) : (setS (fs.flatMap fun f => namesL (vis [] f))).Perm (setS (fs.flatMap nms)) := perm_of_mem (setS_nodup _) (setS_nodup _) fun z => by
  rw [setS_mem, setS_mem, List.mem_flatMap, List.mem_flatMap]
  exact exists_congr fun f => and_congr_right fun _ => namesL_mem.trans vis_names
theorem ints_fsz : ∀ gs : List Fo, intsOf (gs.map fun g => D.int (fsz g)) = some (gs.map fun g => (fsz g : Int))
  | [] => rfl
  | g :: gs => by simp [intsOf, ints_fsz gs]
theorem sum_fsz : ∀ gs : List Fo, (gs.map fun g => (fsz g : Int)).sum = ((gs.map fsz).sum : Nat)
  | [] => rfl
  | g :: gs => by simp [sum_fsz gs]
def powF (o : Fo) : Nat → Fo
  | 0 => .all
  | 1 => o
  | n + 2 => .two .times (powF o (n + 1)) o
theorem powF_succ (o : Fo) : ∀ n, powF o (n + 1) = if n = 0 then o else .two .times (powF o n) o
  | 0 => rfl
  | n + 1 => rfl
theorem powF_dep (o : Fo) : ∀ n, dep (powF o n) ≤ dep o + n
  | 0 => by simp [powF, dep]
  | 1 => by simp [powF]
  | n + 2 => by have := powF_dep o (n + 1); simp only [powF, dep]; omega
def putO (w : Str) (o : Fo) : Fo → Fo
  | .name z => if z = w then o else .name z
  | .no a => .no (putO w o a)
  | .two p a b => .two p (putO w o a) (putO w o b)
  | f => f
theorem putO_dep (w : Str) (o : Fo) : ∀ f, dep (putO w o f) ≤ dep f + dep o
  | .name z => by unfold putO; split <;> simp [dep]
  | .no a => by have := putO_dep w o a; simp only [putO, dep]; omega
  | .two p a b => by have := putO_dep w o a; have := putO_dep w o b; simp only [putO, dep]; omega
  | .all => by simp [putO, dep]
  | .none => by simp [putO, dep]
theorem fD_putO {w : Str} {o f : Fo} (h : ∀ z, f ≠ .name z) : fD (putO w o f) = .tup (.str (hw f) :: (kids f).map fun g => fD (putO w o g)) := by
  cases f <;> first | rfl | exact absurd rfl (h _)
def aonB (z : Str) : Bool := [D.str "all", .str "none"].any fun y => flatEq y (.str z)
theorem w_mem2 {z : Str} {M : MS} {Q : D → MS → Prop} : wp (memD (.str z) (.tup [.str "all", .str "none"])) M Q = Q (.bl (aonB z)) M := w_memT rfl
theorem aon_two (o : Wo) : aonB o.s = false := by cases o <;> decide
theorem aon_all : aonB "all" = true := by decide
theorem aon_none : aonB "none" = true := by decide
theorem aon_name : aonB "name" = false := by decide
theorem aon_not : aonB "not" = false := by decide
/-! ### degrees of formulas -/
@[simp] theorem sx_all_none : ((Str.ofString "all") = (Str.ofString "none")) = False := eq_false (by decide)
@[simp] theorem sx_all_name : ((Str.ofString "all") = (Str.ofString "name")) = False := eq_false (by decide)
@[simp] theorem sx_all_not : ((Str.ofString "all") = (Str.ofString "not")) = False := eq_false (by decide)
@[simp] theorem sx_all_plus : ((Str.ofString "all") = (Str.ofString "plus")) = False := eq_false (by decide)
@[simp] theorem sx_all_times : ((Str.ofString "all") = (Str.ofString "times")) = False := eq_false (by decide)
@[simp] theorem sx_all_meet : ((Str.ofString "all") = (Str.ofString "meet")) = False := eq_false (by decide)
@[simp] theorem sx_all_join : ((Str.ofString "all") = (Str.ofString "join")) = False := eq_false (by decide)
@[simp] theorem sx_all_then : ((Str.ofString "all") = (Str.ofString "then")) = False := eq_false (by decide)
@[simp] theorem sx_none_all : ((Str.ofString "none") = (Str.ofString "all")) = False := eq_false (by decide)
@[simp] theorem sx_none_name : ((Str.ofString "none") = (Str.ofString "name")) = False := eq_false (by decide)
@[simp] theorem sx_none_not : ((Str.ofString "none") = (Str.ofString "not")) = False := eq_false (by decide)
@[simp] theorem sx_none_plus : ((Str.ofString "none") = (Str.ofString "plus")) = False := eq_false (by decide)
@[simp] theorem sx_none_times : ((Str.ofString "none") = (Str.ofString "times")) = False := eq_false (by decide)
@[simp] theorem sx_none_meet : ((Str.ofString "none") = (Str.ofString "meet")) = False := eq_false (by decide)
@[simp] theorem sx_none_join : ((Str.ofString "none") = (Str.ofString "join")) = False := eq_false (by decide)
@[simp] theorem sx_none_then : ((Str.ofString "none") = (Str.ofString "then")) = False := eq_false (by decide)
@[simp] theorem sx_name_all : ((Str.ofString "name") = (Str.ofString "all")) = False := eq_false (by decide)
@[simp] theorem sx_name_none : ((Str.ofString "name") = (Str.ofString "none")) = False := eq_false (by decide)
@[simp] theorem sx_name_not : ((Str.ofString "name") = (Str.ofString "not")) = False := eq_false (by decide)
@[simp] theorem sx_name_plus : ((Str.ofString "name") = (Str.ofString "plus")) = False := eq_false (by decide)
@[simp] theorem sx_name_times : ((Str.ofString "name") = (Str.ofString "times")) = False := eq_false (by decide)
@[simp] theorem sx_name_meet : ((Str.ofString "name") = (Str.ofString "meet")) = False := eq_false (by decide)
@[simp] theorem sx_name_join : ((Str.ofString "name") = (Str.ofString "join")) = False := eq_false (by decide)
@[simp] theorem sx_name_then : ((Str.ofString "name") = (Str.ofString "then")) = False := eq_false (by decide)
@[simp] theorem sx_not_all : ((Str.ofString "not") = (Str.ofString "all")) = False := eq_false (by decide)
@[simp] theorem sx_not_none : ((Str.ofString "not") = (Str.ofString "none")) = False := eq_false (by decide)
@[simp] theorem sx_not_name : ((Str.ofString "not") = (Str.ofString "name")) = False := eq_false (by decide)
@[simp] theorem sx_not_plus : ((Str.ofString "not") = (Str.ofString "plus")) = False := eq_false (by decide)
@[simp] theorem sx_not_times : ((Str.ofString "not") = (Str.ofString "times")) = False := eq_false (by decide)
@[simp] theorem sx_not_meet : ((Str.ofString "not") = (Str.ofString "meet")) = False := eq_false (by decide)
@[simp] theorem sx_not_join : ((Str.ofString "not") = (Str.ofString "join")) = False := eq_false (by decide)
@[simp] theorem sx_not_then : ((Str.ofString "not") = (Str.ofString "then")) = False := eq_false (by decide)
@[simp] theorem sx_plus_all : ((Str.ofString "plus") = (Str.ofString "all")) = False := eq_false (by decide)
@[simp] theorem sx_plus_none : ((Str.ofString "plus") = (Str.ofString "none")) = False := eq_false (by decide)
@[simp] theorem sx_plus_name : ((Str.ofString "plus") = (Str.ofString "name")) = False := eq_false (by decide)
@[simp] theorem sx_plus_not : ((Str.ofString "plus") = (Str.ofString "not")) = False := eq_false (by decide)
@[simp] theorem sx_plus_times : ((Str.ofString "plus") = (Str.ofString "times")) = False := eq_false (by decide)
@[simp] theorem sx_plus_meet : ((Str.ofString "plus") = (Str.ofString "meet")) = False := eq_false (by decide)
@[simp] theorem sx_plus_join : ((Str.ofString "plus") = (Str.ofString "join")) = False := eq_false (by decide)
@[simp] theorem sx_plus_then : ((Str.ofString "plus") = (Str.ofString "then")) = False := eq_false (by decide)
@[simp] theorem sx_times_all : ((Str.ofString "times") = (Str.ofString "all")) = False := eq_false (by decide)
@[simp] theorem sx_times_none : ((Str.ofString "times") = (Str.ofString "none")) = False := eq_false (by decide)
@[simp] theorem sx_times_name : ((Str.ofString "times") = (Str.ofString "name")) = False := eq_false (by decide)
@[simp] theorem sx_times_not : ((Str.ofString "times") = (Str.ofString "not")) = False := eq_false (by decide)
@[simp] theorem sx_times_plus : ((Str.ofString "times") = (Str.ofString "plus")) = False := eq_false (by decide)
@[simp] theorem sx_times_meet : ((Str.ofString "times") = (Str.ofString "meet")) = False := eq_false (by decide)
@[simp] theorem sx_times_join : ((Str.ofString "times") = (Str.ofString "join")) = False := eq_false (by decide)
@[simp] theorem sx_times_then : ((Str.ofString "times") = (Str.ofString "then")) = False := eq_false (by decide)
@[simp] theorem sx_meet_all : ((Str.ofString "meet") = (Str.ofString "all")) = False := eq_false (by decide)
@[simp] theorem sx_meet_none : ((Str.ofString "meet") = (Str.ofString "none")) = False := eq_false (by decide)
@[simp] theorem sx_meet_name : ((Str.ofString "meet") = (Str.ofString "name")) = False := eq_false (by decide)
@[simp] theorem sx_meet_not : ((Str.ofString "meet") = (Str.ofString "not")) = False := eq_false (by decide)
@[simp] theorem sx_meet_plus : ((Str.ofString "meet") = (Str.ofString "plus")) = False := eq_false (by decide)
@[simp] theorem sx_meet_times : ((Str.ofString "meet") = (Str.ofString "times")) = False := eq_false (by decide)
@[simp] theorem sx_meet_join : ((Str.ofString "meet") = (Str.ofString "join")) = False := eq_false (by decide)
@[simp] theorem sx_meet_then : ((Str.ofString "meet") = (Str.ofString "then")) = False := eq_false (by decide)
@[simp] theorem sx_join_all : ((Str.ofString "join") = (Str.ofString "all")) = False := eq_false (by decide)
@[simp] theorem sx_join_none : ((Str.ofString "join") = (Str.ofString "none")) = False := eq_false (by decide)
@[simp] theorem sx_join_name : ((Str.ofString "join") = (Str.ofString "name")) = False := eq_false (by decide)
@[simp] theorem sx_join_not : ((Str.ofString "join") = (Str.ofString "not")) = False := eq_false (by decide)
@[simp] theorem sx_join_plus : ((Str.ofString "join") = (Str.ofString "plus")) = False := eq_false (by decide)
@[simp] theorem sx_join_times : ((Str.ofString "join") = (Str.ofString "times")) = False := eq_false (by decide)
@[simp] theorem sx_join_meet : ((Str.ofString "join") = (Str.ofString "meet")) = False := eq_false (by decide)
@[simp] theorem sx_join_then : ((Str.ofString "join") = (Str.ofString "then")) = False := eq_false (by decide)
@[simp] theorem sx_then_all : ((Str.ofString "then") = (Str.ofString "all")) = False := eq_false (by decide)
@[simp] theorem sx_then_none : ((Str.ofString "then") = (Str.ofString "none")) = False := eq_false (by decide)
@[simp] theorem sx_then_name : ((Str.ofString "then") = (Str.ofString "name")) = False := eq_false (by decide)
@[simp] theorem sx_then_not : ((Str.ofString "then") = (Str.ofString "not")) = False := eq_false (by decide)
@[simp] theorem sx_then_plus : ((Str.ofString "then") = (Str.ofString "plus")) = False := eq_false (by decide)
@[simp] theorem sx_then_times : ((Str.ofString "then") = (Str.ofString "times")) = False := eq_false (by decide)
@[simp] theorem sx_then_meet : ((Str.ofString "then") = (Str.ofString "meet")) = False := eq_false (by decide)
@[simp] theorem sx_then_join : ((Str.ofString "then") = (Str.ofString "join")) = False := eq_false (by decide)
def minQ (x y : Rat) : Rat := if y < x then y else x
def maxQ (x y : Rat) : Rat := if x < y then y else x
def op2 : Wo → Rat → Rat → Rat
  | .plus, x, y => minQ 1 (x + y)
  | .times, x, y => maxQ 0 (x + y - 1)
  | .meet, x, y => minQ x y
  | .join, x, y => maxQ x y
  | .thn, x, y => minQ 1 ((1 - x) + y)
def val (v : Str → Rat) : Fo → Rat
  | .all => 1
  | .none => 0
  | .name z => v z
  | .no a => 1 - val v a
  | .two o a b => op2 o (val v a) (val v b)
theorem SmQ.minQ {n : Nat} {x y : Rat} (hx : SmQ n x) (hy : SmQ n y) : SmQ n (minQ x y) := by unfold Law.minQ; split <;> assumption
theorem SmQ.maxQ {n : Nat} {x y : Rat} (hx : SmQ n x) (hy : SmQ n y) : SmQ n (maxQ x y) := by unfold Law.maxQ; split <;> assumption
theorem SmQ1 : SmQ 1 1 := ⟨by decide, by decide⟩
theorem SmQ0 : SmQ 1 0 := ⟨by decide, by decide⟩
theorem op2_sm {a b : Nat} {x y : Rat} (o : Wo) (ha : 0 < a) (hx : SmQ a x) (hy : SmQ b y) : SmQ (a + b + 3) (op2 o x y) := by
  cases o with
  | plus => exact (SmQ1.mono (by omega)).minQ ((hx.add hy).mono (by omega))
  | times => exact (SmQ0.mono (by omega)).maxQ (((hx.add hy).sub SmQ1).mono (by omega))
  | meet => exact (hx.mono (by omega)).minQ (hy.mono (by omega))
  | join => exact (hx.mono (by omega)).maxQ (hy.mono (by omega))
  | thn => exact (SmQ1.mono (by omega)).minQ (((SmQ1.sub hx).add hy).mono (by omega))
theorem val_sm {v : Str → Rat} {k : Nat} (hk : 0 < k) : ∀ (f : Fo), (∀ z ∈ nms f, SmQ k (v z)) → ∃ n, 0 < n ∧ n + 3 ≤ (k + 3) * 2 ^ dep f ∧ SmQ n (val v f)
  | .all, _ => ⟨1, by decide, by simp [dep]; omega, SmQ1⟩
  | .none, _ => ⟨1, by decide, by simp [dep]; omega, SmQ0⟩
  | .name z, h => ⟨k, hk, by simp [dep], h z (by simp [nms])⟩
  | .no a, h => by
    obtain ⟨n, n0, h1, h2⟩ := val_sm hk a h
    refine ⟨n + 2, by omega, ?_, (SmQ1.sub h2).mono (by omega)⟩
    simp only [dep, Nat.pow_succ, ← Nat.mul_assoc]; omega
  | .two o a b, h => by
    simp only [nms, List.mem_append] at h
    obtain ⟨n, n0, h1, h2⟩ := val_sm hk a fun z hz => h z (.inl hz)
    obtain ⟨m, m0, h3, h4⟩ := val_sm hk b fun z hz => h z (.inr hz)
    refine ⟨n + m + 3, by omega, ?_, op2_sm o n0 h2 h4⟩
    have := pow_max (dep a) (dep b)
    have l1 := Nat.mul_le_mul_left (k + 3) this.1
    have l2 := Nat.mul_le_mul_left (k + 3) this.2
    simp only [dep, Nat.pow_succ, ← Nat.mul_assoc]; omega
theorem val_small {v : Str → Rat} {k m : Nat} {f : Fo} (hk : 0 < k) (h : ∀ z ∈ nms f, SmQ k (v z)) (hm : (k + 3) * 2 ^ dep f ≤ m) : SmQ m (val v f) := by
  obtain ⟨n, _, h1, h2⟩ := val_sm hk f h
  exact h2.mono (by omega)
theorem subs_dep : ∀ (f : Fo) {g : Fo}, g ∈ subs f → dep g ≤ dep f ∧ ∀ z ∈ nms g, z ∈ nms f
  | .no a, g, h => by
    rcases List.mem_append.mp h with h | h
    · have := subs_dep a h; exact ⟨by simp only [dep]; omega, this.2⟩
    · rw [List.mem_singleton.mp h]; exact ⟨Nat.le_refl _, fun _ h => h⟩
  | .two o a b, g, h => by
    rcases List.mem_append.mp h with h | h
    · rcases List.mem_append.mp h with h | h
      · have := subs_dep a h; exact ⟨by simp only [dep]; omega, fun z hz => List.mem_append_left _ (this.2 z hz)⟩
      · have := subs_dep b h; exact ⟨by simp only [dep]; omega, fun z hz => List.mem_append_right _ (this.2 z hz)⟩
    · rw [List.mem_singleton.mp h]; exact ⟨Nat.le_refl _, fun _ h => h⟩
  | .all, g, h => by rw [List.mem_singleton.mp h]; exact ⟨Nat.le_refl _, fun _ h => h⟩
  | .none, g, h => by rw [List.mem_singleton.mp h]; exact ⟨Nat.le_refl _, fun _ h => h⟩
  | .name _, g, h => by rw [List.mem_singleton.mp h]; exact ⟨Nat.le_refl _, fun _ h => h⟩
theorem dQ_inj {x y : Rat} (h : dQ x = dQ y) : x = y := by
  unfold dQ at h
  have h1 := (D.tup.inj h)
  have e1 : x.num = y.num := by injection h1 with a _; exact D.int.inj a
  have e2 : (x.den : Int) = y.den := by injection h1 with _ b; injection b with b _; exact D.int.inj b
  have e3 := Rat.num_divInt_den x
  rw [e1, e2, Rat.num_divInt_den] at e3
  exact e3.symm
theorem eqv_dQ {x y : Rat} : eqvD (dQ x) (dQ y) = some (decide (x = y)) := by
  have : decide (x = y) = (decide (x.num = y.num) && decide ((x.den : Int) = y.den)) := by
    rw [← Bool.decide_and]
    refine decide_eq_decide.mpr ⟨fun h => by rw [h]; exact ⟨rfl, rfl⟩, fun h => ?_⟩
    apply dQ_inj
    unfold dQ; rw [h.1, h.2]
  rw [this]
  unfold dQ
  have sh : ∀ a b : Int, SeqAt.shaped (.tuple [.int a, .int b]) = true := fun _ _ => rfl
  simp only [eqvD, strEq, deepEq, toPy, toPys, Option.map_some, sh, Bool.and_self, if_true, PyData.eqv, PyData.eqvAll, Bool.and_true]
  congr 1
/-! ### a valuation: names and degrees -/
def vsD (zs : List Str) (v : Str → Rat) : D := .tup (zs.map fun z => .tup [.str z, dQ (v z)])
def kvs (w : Str → D) (zs : List Str) : List (Key × D) := zs.map fun z => (.inr z, w z)
theorem getK_kvs (w : Str → D) (z : Str) : ∀ zs : List Str, DL.getK (kvs w zs) (.inr z) = if z ∈ zs then some (w z) else none
  | [] => rfl
  | y :: zs => by
    have ih := getK_kvs w z zs
    unfold DL.getK kvs at *
    simp only [List.map_cons, List.find?_cons]
    by_cases c : y = z
    · subst c; simp
    · have : decide ((Sum.inr y : Key) = Sum.inr z) = false := decide_eq_false fun h => c (Sum.inr.inj h)
      rw [this]
      simp only [ih]
      have : (z ∈ y :: zs) ↔ z ∈ zs := by simp [List.mem_cons, Ne.symm c]
      simp only [this]
theorem pairs_kvs (w : Str → D) : ∀ zs : List Str, pairsOfD (zs.map fun z => .tup [.str z, w z]) = some (kvs w zs)
  | [] => rfl
  | z :: zs => by
    simp only [List.map_cons, pairsOfD, pairOf, keyK, Option.map_some, Option.bind_some, pairs_kvs w zs]; rfl
theorem merge_kvs (w : Str → D) : ∀ (zs ys : List Str), (ys ++ zs).Nodup → mergeKD (kvs w ys) (kvs w zs) = kvs w (ys ++ zs)
  | [], ys, _ => by simp [mergeKD, kvs]
  | z :: zs, ys, h => by
    have hz : z ∉ ys := fun hm => by
      have := (List.nodup_append.mp h).2.2 z hm z List.mem_cons_self
      exact this rfl
    have e : putKD (kvs w ys) (.inr z) (w z) = kvs w (ys ++ [z]) := by
      unfold putKD
      have : ((kvs w ys).any fun p => decide (p.1 = (Sum.inr z : Key))) = false := by
        rw [List.any_eq_false]
        intro p hp
        obtain ⟨y, hy, rfl⟩ := List.mem_map.mp hp
        have : (Sum.inr y : Key) ≠ Sum.inr z := fun e => hz (by rw [← Sum.inr.inj e]; exact hy)
        simp [this]
      rw [this]
      simp [kvs]
    have ih := merge_kvs w zs (ys ++ [z]) (by simpa using h)
    show mergeKD (putKD (kvs w ys) (.inr z) (w z)) (kvs w zs) = _
    rw [e, ih]
    simp
theorem w_dictP {zs : List Str} {w : Str → D} {M : MS} {Q : D → MS → Prop} {d : D} (hn : zs.Nodup) (hl : zs.length ≤ 100000) (hd : d = .tup (zs.map fun z => .tup [.str z, w z]) ∨ d = .lst (zs.map fun z => .tup [.str z, w z])) : wp (dictD [d]) M Q = Q (.obj M.length) (M ++ [.dK (kvs w zs)]) := wp_of (by
  have e : (seqOf M d).bind pairsOfD = some (kvs w zs) := by
    rcases hd with rfl | rfl
    · simp only [seqOf, Option.bind_some, pairs_kvs]
    · simp only [seqOf, lstOf, Option.bind_some, pairs_kvs]
  unfold dictD
  simp only [e]
  rw [if_pos (by rw [sizeLine_eq]; simp [kvs]; omega)]
  have := merge_kvs w zs [] (by simpa using hn)
  simp only [List.nil_append] at this
  rw [show (kvs w [] : List (Key × D)) = [] from rfl] at this
  rw [this]
  rfl)
theorem w_ixF {M : MS} {Q : D → MS → Prop} {n : Nat} {v : Fo → D} {fs : List Fo} {f : Fo} (h : M[n]? = some (.dF (ents v fs))) (hd : dep f ≤ 7) (hm : f ∈ fs) : wp (ixD (.obj n) (fD f)) M Q = Q (v f) M := w_ixG (by simp [seqOf, lstOf, h]) (fun z h => by cases h) (by
  unfold dAt
  simp only [h, keyN_fD hd, Option.map_some, getF_ents, if_pos hm])
theorem w_ixK {M : MS} {Q : D → MS → Prop} {n : Nat} {w : Str → D} {zs : List Str} {z : Str} (h : M[n]? = some (.dK (kvs w zs))) (hm : z ∈ zs) : wp (ixD (.obj n) (.str z)) M Q = Q (w z) M := w_ixG (by simp [seqOf, lstOf, h]) (fun z h => by cases h) (by
  unfold dAt
  simp only [h, keyK, Option.map_some, getK_kvs, if_pos hm])
section
variable {x y : Rat} {M : MS}
theorem lesserQ (hx : SmQ 4000 x) (hy : SmQ 4000 y) : F_lesser [dQ x, dQ y] M = some (.ok (dQ (minQ x y)), M) := by
  refine wp_val ?_
  unfold F_lesser m_lesser
  simp -dsimp [wp_of (isBelowQ hy hx)]
  by_cases c : y < x <;> simp -dsimp [c, minQ]
theorem greaterQ (hx : SmQ 4000 x) (hy : SmQ 4000 y) : F_greater [dQ x, dQ y] M = some (.ok (dQ (maxQ x y)), M) := by
  refine wp_val ?_
  unfold F_greater m_greater
  simp -dsimp [wp_of (isBelowQ hx hy)]
  by_cases c : x < y <;> simp -dsimp [c, maxQ]
end
theorem put_together_ok {o : Wo} {x y : Rat} (hx : SmQ 1000 x) (hy : SmQ 1000 y) (M : MS) : F_put_together [.str o.s, dQ x, dQ y] M = some (.ok (dQ (op2 o x y)), M) := by
  refine wp_val ?_
  unfold F_put_together m_put_together
  have c1 : c_ONE = dQ 1 := rfl
  have c0 : c_ZERO = dQ 0 := rfl
  have x4 := hx.mono (show 1000 ≤ 4000 by decide)
  have y4 := hy.mono (show 1000 ≤ 4000 by decide)
  have o4 := SmQ1.mono (show 1 ≤ 4000 by decide)
  have z4 := SmQ0.mono (show 1 ≤ 4000 by decide)
  have a4 := (hx.add hy).mono (show 1000 + 1000 + 1 ≤ 4000 by decide)
  have s4 := ((hx.add hy).sub SmQ1).mono (show 1000 + 1000 + 1 + 1 + 1 ≤ 4000 by decide)
  have l4 := (SmQ1.sub hx).mono (show 1 + 1000 + 1 ≤ 4000 by decide)
  have t4 := ((SmQ1.sub hx).add hy).mono (show 1 + 1000 + 1 + 1000 + 1 ≤ 4000 by decide)
  cases o with
  | plus => simp -dsimp [Wo.s, c1, wp_of (addedQ x4 y4), wp_of (lesserQ o4 a4), op2]
  | times => simp -dsimp [Wo.s, c1, c0, wp_of (addedQ x4 y4), wp_of (lessQ a4 o4), wp_of (greaterQ z4 s4), op2]
  | meet => simp -dsimp [Wo.s, wp_of (lesserQ x4 y4), op2]
  | join => simp -dsimp [Wo.s, wp_of (greaterQ x4 y4), op2]
  | thn => simp -dsimp [Wo.s, c1, wp_of (lessQ o4 x4), wp_of (addedQ l4 y4), wp_of (lesserQ o4 t4), op2]
theorem degree_of_ok {zs : List Str} {v : Str → Rat} {f : Fo} {k : Nat} (hn : zs.Nodup) (hz : zs.length ≤ 100) (hv : ∀ z ∈ zs, SmQ k (v z)) (hf : ∀ z ∈ nms f, z ∈ zs) (hd : dep f ≤ 7) (hk : 0 < k) (hb : (k + 3) * 2 ^ dep f ≤ 1000) (M : MS) :
    F_degree_of [vsD zs v, fD f] M = some (.ok (dQ (val v f)), M) := by
  have key : wp (fnB 6 (m_degree_of F_parts_of F_less F_put_together) [vsD zs v, fD f]) M fun r M' => r = dQ (val v f) ∧ M' = M ++ [.dK (kvs (fun z => dQ (v z)) zs), .dF (ents (fun g => dQ (val v g)) (vis [] f))] := by
    unfold m_degree_of
    have g1 : ∀ (a b : MO), (M ++ [a, b])[M.length]? = some a := fun a b => by simp
    have g2 : ∀ (a b : MO), (M ++ [a, b])[M.length + 1]? = some b := fun a b => by simp
    have s2 : ∀ (a b c : MO), (M ++ [a, b]).set (M.length + 1) c = M ++ [a, c] := fun a b c => by simp
    have wd := fun {Q : D → MS → Prop} => w_dictP (M := M) (Q := Q) (w := fun z => dQ (v z)) (d := vsD zs v) hn (by omega) (.inl rfl)
    simp -dsimp [wd]
    refine wp_call (parts_of_ok hd _) ?_
    simp -dsimp
    have L := vis_ord f .nil List.not_mem_nil
    have Lm : ∀ g ∈ vis [] f, dep g ≤ dep f ∧ ∀ z ∈ nms g, z ∈ nms f := fun g hg => (vis_in f hg).elim (fun h => nomatch h) (subs_dep f)
    have Ll : (vis [] f).length ≤ 1000 := by
      have := vis_len f (fs := [])
      have := nod_le f
      have : 2 ^ dep f ≤ 2 ^ 7 := Nat.pow_le_pow_right (by decide) hd
      simp at *; omega
    have sm : ∀ g ∈ vis [] f, SmQ 1000 (val v g) := fun g hg => val_small hk (fun z hz => hv z (hf z ((Lm g hg).2 z hz))) (by
      have : 2 ^ dep g ≤ 2 ^ dep f := Nat.pow_le_pow_right (by decide) (Lm g hg).1
      exact Nat.le_trans (Nat.mul_le_mul_left _ this) hb)
    refine wp_forI (fun i ρ M' => M' = M ++ [.dK (kvs (fun z => dQ (v z)) zs), .dF (ents (fun g => dQ (val v g)) ((vis [] f).take i))] ∧ ∃ z4 z5, ρ = [some (vsD zs v), some (fD f), some (.obj M.length), some (.obj (M.length + 1)), z4, z5]) ?_ ?_ ⟨rfl, _, _, rfl⟩
    · rintro ρ M' ⟨rfl, z4, z5, rfl⟩
      rw [List.length_map, List.take_length]
      simp -dsimp [w_ixF (v := fun g => dQ (val v g)) (g2 _ _) hd (vis_mem [] f)]
    · rintro i y ρ M' hy ⟨rfl, z4, z5, rfl⟩
      rw [List.getElem?_map] at hy
      obtain ⟨g, hg, rfl⟩ := Option.map_eq_some_iff.mp hy
      have hgm := List.mem_of_getElem? hg
      obtain ⟨hk1, hk2⟩ := L.take hg
      have dg := (Lm g hgm).1
      have lt : ((vis [] f).take i).length ≤ 1000 := by rw [List.length_take]; omega
      have st : ∀ d : D, d = dQ (val v g) → wp (setD (.obj (M.length + 1)) (fD g) d) (M ++ [.dK (kvs (fun z => dQ (v z)) zs), .dF (ents (fun g => dQ (val v g)) ((vis [] f).take i))]) fun _ M3 => M3 = M ++ [.dK (kvs (fun z => dQ (v z)) zs), .dF (ents (fun g => dQ (val v g)) ((vis [] f).take (i + 1)))] := by
        rintro d rfl
        rw [w_setF (g2 _ _) (keyN_fD (by omega)) (by rw [sizeLine_eq]; simp [ents]; omega), s2, putF_ents (fun g => dQ (val v g)) hk2, List.take_succ, hg]
        rfl
      have c1 : c_ONE = dQ 1 := rfl
      have c0 : c_ZERO = dQ 0 := rfl
      generalize hMM : M ++ [.dK (kvs (fun z => dQ (v z)) zs), .dF (ents (fun g => dQ (val v g)) ((vis [] f).take i))] = MM at *
      have g1' : MM[M.length]? = some (.dK (kvs (fun z => dQ (v z)) zs)) := by rw [← hMM]; exact g1 _ _
      have g2' : MM[M.length + 1]? = some (.dF (ents (fun g => dQ (val v g)) ((vis [] f).take i))) := by rw [← hMM]; exact g2 _ _
      have fin : ∀ (d : D) (a b : Option D), d = dQ (val v g) → wp (setD (.obj (M.length + 1)) (fD g) d) MM fun _ M3 => (M3 = M ++ [.dK (kvs (fun z => dQ (v z)) zs), .dF (ents (fun g => dQ (val v g)) ((vis [] f).take (i + 1)))] ∧ ∃ z4 z5, [some (vsD zs v), some (fD f), some (.obj M.length), some (.obj (M.length + 1)), a, b] = [some (vsD zs v), some (fD f), some (.obj M.length), some (.obj (M.length + 1)), z4, z5]) := fun d a b h => wp_mono (st d h) fun _ M3 e => ⟨e, _, _, rfl⟩
      cases g with
      | all =>
        simp -dsimp [-w_memT, w_mem2, fD, aon_all, c1]
        exact fin _ _ _ rfl
      | none =>
        simp -dsimp [-w_memT, w_mem2, fD, aon_none, c0]
        exact fin _ _ _ rfl
      | name z =>
        simp -dsimp [-w_memT, w_mem2, fD, aon_name, w_ixK (w := fun z => dQ (v z)) g1' (hf z ((Lm _ hgm).2 z (by simp [nms])))]
        exact fin _ _ _ rfl
      | no a =>
        have ha := hk1 a (by simp [kids])
        have da : dep a ≤ 7 := by simp only [dep] at dg; omega
        have sa := (sm a (List.mem_of_mem_take ha)).mono (show 1000 ≤ 4000 by decide)
        simp -dsimp [-w_memT, w_mem2, fD, aon_not, c1, w_ixF (v := fun g => dQ (val v g)) g2' da ha, wp_of (lessQ (SmQ1.mono (show 1 ≤ 4000 by decide)) sa)]
        exact fin _ _ _ rfl
      | two o a b =>
        have ha := hk1 a (by simp [kids])
        have hb := hk1 b (by simp [kids])
        have da : dep a ≤ 7 := by simp only [dep] at dg; omega
        have db : dep b ≤ 7 := by simp only [dep] at dg; omega
        have sa := sm a (List.mem_of_mem_take ha)
        have sb := sm b (List.mem_of_mem_take hb)
        have e1 : (o.s = "name") = False := eq_false (by cases o <;> decide)
        have e2 : (o.s = "not") = False := eq_false (by cases o <;> decide)
        simp -dsimp [-w_memT, w_mem2, fD, aon_two, e1, e2, w_ixF (v := fun g => dQ (val v g)) g2' da ha, w_ixF (v := fun g => dQ (val v g)) g2' db hb, wp_of (put_together_ok (o := o) sa sb _)]
        exact fin _ _ _ rfl
  obtain ⟨r, M', e, rfl, rfl⟩ := key
  unfold F_degree_of
  refine truncF_same (M := M) (M2 := M) (junk := [.dK (kvs (fun z => dQ (v z)) zs), .dF (ents (fun g => dQ (val v g)) (vis [] f))]) e rfl (fun mo h => .inl h) ?_
  exact bd_plain _ _ rfl
def fullB (v : Str → Rat) (th : List Fo) : Bool := th.all fun f => decide (val v f = 1)
theorem is_full_ok {zs : List Str} {v : Str → Rat} {th : List Fo} {k : Nat} (hn : zs.Nodup) (hz : zs.length ≤ 100) (hv : ∀ z ∈ zs, SmQ k (v z)) (hk : 0 < k) (ht : th.length ≤ 1000) (hf : ∀ f ∈ th, (∀ z ∈ nms f, z ∈ zs) ∧ dep f ≤ 7 ∧ (k + 3) * 2 ^ dep f ≤ 1000) (M : MS) :
    F_is_full [vsD zs v, .tup (th.map fD)] M = some (.ok (.bl (fullB v th)), M) := by
  refine wp_val ?_
  unfold F_is_full m_is_full
  have ft : fits th.length = true := fits_of (by omega)
  have c1 : c_ONE = dQ 1 := rfl
  simp -dsimp [ft]
  refine wp_comI (fun i acc M' => M' = M ∧ acc = (th.map fun f => D.bl (decide (val v f = 1))).take i) ?_ ⟨rfl, rfl⟩ ?_
  · rintro i x acc M' hx ⟨rfl, rfl⟩
    rw [List.getElem?_map] at hx
    obtain ⟨f, hg, rfl⟩ := Option.map_eq_some_iff.mp hx
    have h := hf f (List.mem_of_getElem? hg)
    simp -dsimp [wp_of (degree_of_ok hn hz hv h.1 h.2.1 hk h.2.2 _), c1, eqv_dQ]
    rw [List.take_succ, List.getElem?_map, hg]; rfl
  · rintro ys M' ⟨rfl, rfl⟩
    rw [List.length_map, ← List.length_map (f := fun f => D.bl (decide (val v f = 1))), List.take_length]
    simp -dsimp [w_allL (blsOf_map (f := fun f => decide (val v f = 1)) th)]
    rfl

/-! ### degrees in whole parts -/
def minI (i j : Int) : Int := if j < i then j else i
def maxI (i j : Int) : Int := if j > i then j else i
def unO (n : Int) : Wo → Int → Int → Int
  | .plus, x, y => minI n (x + y)
  | .times, x, y => maxI 0 (x + y - n)
  | .meet, x, y => minI x y
  | .join, x, y => maxI x y
  | .thn, x, y => minI n (n - x + y)
def unF (u : Str → Int) (n : Int) : Fo → Int
  | .all => n
  | .none => 0
  | .name z => u z
  | .no a => n - unF u n a
  | .two o a b => unO n o (unF u n a) (unF u n b)
theorem cast_lt {n p q : Rat} {i j : Int} (hn : 0 < n) (hi : (i : Rat) = n * p) (hj : (j : Rat) = n * q) : i < j ↔ p < q := by
  rw [← Rat.intCast_lt_intCast, hi, hj]
  exact Rat.mul_lt_mul_left hn
theorem cast_min {n p q : Rat} {i j : Int} (hn : 0 < n) (hi : (i : Rat) = n * p) (hj : (j : Rat) = n * q) : ((minI i j : Int) : Rat) = n * minQ p q := by
  unfold minI minQ
  by_cases c : j < i
  · rw [if_pos c, if_pos ((cast_lt hn hj hi).mp c), hj]
  · rw [if_neg c, if_neg fun z => c ((cast_lt hn hj hi).mpr z), hi]
theorem cast_max {n p q : Rat} {i j : Int} (hn : 0 < n) (hi : (i : Rat) = n * p) (hj : (j : Rat) = n * q) : ((maxI i j : Int) : Rat) = n * maxQ p q := by
  unfold maxI maxQ
  by_cases c : i < j
  · rw [if_pos c, if_pos ((cast_lt hn hi hj).mp c), hj]
  · rw [if_neg c, if_neg fun z => c ((cast_lt hn hi hj).mpr z), hi]
theorem unF_val {u : Str → Int} {v : Str → Rat} {n : Int} (hn : 0 < n) : ∀ (f : Fo), (∀ z ∈ nms f, (u z : Rat) = n * v z) → ((unF u n f : Int) : Rat) = n * val v f
  | .all, _ => by simp [unF, val]
  | .none, _ => by simp [unF, val]
  | .name z, h => h z (by simp [nms])
  | .no a, h => by
    have := unF_val hn a h
    simp only [unF, val, Rat.intCast_sub, this]; grind
  | .two o a b, h => by
    simp only [nms, List.mem_append] at h
    have h1 := unF_val hn a fun z hz => h z (.inl hz)
    have h2 := unF_val hn b fun z hz => h z (.inr hz)
    have hq : (0 : Rat) < (n : Rat) := by rw [show (0 : Rat) = ((0 : Int) : Rat) from rfl, Rat.intCast_lt_intCast]; exact hn
    have h0 : ((0 : Int) : Rat) = (n : Rat) * 0 := by simp
    have hN : ((n : Int) : Rat) = (n : Rat) * 1 := by simp
    cases o with
    | plus => exact cast_min hq hN (by rw [Rat.intCast_add, h1, h2]; grind)
    | times => exact cast_max hq h0 (by rw [Rat.intCast_sub, Rat.intCast_add, h1, h2]; grind)
    | meet => exact cast_min hq h1 h2
    | join => exact cast_max hq h1 h2
    | thn => exact cast_min hq hN (by rw [Rat.intCast_add, Rat.intCast_sub, h1, h2]; grind)
theorem cast_ne {i : Int} (h : i ≠ 0) : (i : Rat) ≠ 0 := fun z => h (Rat.intCast_inj.mp (z.trans Rat.intCast_zero.symm))
theorem num_eq (q : Rat) : (q.num : Rat) = q * ((q.den : Int) : Rat) := by
  have h := Rat.num_divInt_den q
  rw [Rat.divInt_eq_div] at h
  have := cast_ne (den_ne q)
  grind
theorem part_eq {q : Rat} {n : Int} (hd : (q.den : Int) ∣ n) : ((q.num * (n / q.den) : Int) : Rat) = n * q := by
  obtain ⟨m, rfl⟩ := hd
  rw [Int.mul_ediv_cancel_left _ (den_ne q), Rat.intCast_mul, Rat.intCast_mul, num_eq q]
  grind
theorem units_div {u n : Int} {q : Rat} (hn : n ≠ 0) (h : (u : Rat) = n * q) : Rat.divInt u n = q := by
  rw [Rat.divInt_eq_div, h]
  have := cast_ne hn
  grind
theorem law_units_ok {u : Str → Int} {n : Int} {zs : List Str} {M : MS} {m : Nat} (hm : M[m]? = some (.dK (kvs (fun z => .int (u z)) zs))) : ∀ (k : Nat) (f : Fo), dep f < k → (∀ z ∈ nms f, z ∈ zs) → R__law_units k [fD f, .obj m, .int n] M = some (.ok (.int (unF u n f)), M)
  | 0, _, h, _ => absurd h (Nat.not_lt_zero _)
  | k + 1, f, h, hf => by
    refine wp_val ?_
    unfold R__law_units m__law_units
    cases f with
    | all => simp -dsimp [-w_memT, w_mem2, fD, aon_all, unF]
    | none => simp -dsimp [-w_memT, w_mem2, fD, aon_none, unF]
    | name z => simp -dsimp [-w_memT, w_mem2, fD, aon_name, unF, w_ixK (w := fun z => .int (u z)) hm (hf z (by simp [nms]))]
    | no a =>
      have r1 := law_units_ok hm k a (by simp only [dep] at h; omega) hf (n := n)
      simp -dsimp [-w_memT, w_mem2, fD, aon_not, unF, wp_of r1]
    | two o a b =>
      have r1 := law_units_ok hm k a (by simp only [dep] at h; omega) (fun z hz => hf z (by simp [nms, hz])) (n := n)
      have r2 := law_units_ok hm k b (by simp only [dep] at h; omega) (fun z hz => hf z (by simp [nms, hz])) (n := n)
      cases o <;> simp -dsimp [-w_memT, w_mem2, fD, Wo.s, show aonB "plus" = false from by decide, show aonB "times" = false from by decide, show aonB "meet" = false from by decide, show aonB "join" = false from by decide, show aonB "then" = false from by decide, unF, unO, minI, maxI, wp_of r1, wp_of r2]
theorem law_degree_ok {zs : List Str} {v : Str → Rat} {f : Fo} (hn : zs.Nodup) (hz : zs.length ≤ 20) (hv : ∀ z ∈ zs, SmQ 64 (v z)) (hf : ∀ z ∈ nms f, z ∈ zs) (hd : dep f < 5) (M : MS) :
    F__law_degree [vsD zs v, fD f] M = some (.ok (dQ (val v f)), M) := by
  have key : wp (fnB 6 (m__law_degree F__law_common F__law_fraction F__law_units) [vsD zs v, fD f]) M fun r M' => r = dQ (val v f) ∧ ∃ u : Str → Int, M' = M ++ [.dK (kvs (fun z => .int (u z)) zs)] := by
    unfold m__law_degree
    have ev : vsD zs v = .tup (zs.map fun z => .tup [.str z, .tup [.int (v z).num, .int (v z).den]]) := rfl
    simp -dsimp [ev]
    refine wp_forI (fun i ρ M' => M' = M ∧ ∃ (n : Int) (z3 z4 : Option D), ρ = [some (vsD zs v), some (fD f), some (.int n), z3, z4, none] ∧ 0 < n ∧ Sm (64 * i + 1) n ∧ ∀ z ∈ zs.take i, ((v z).den : Int) ∣ n) ?_ ?_ ⟨rfl, 1, _, _, rfl, by decide, by decide, by simp⟩
    · rintro ρ M' ⟨rfl, n, z3, z4, rfl, n0, ns, nd⟩
      rw [List.length_map] at ns
      rw [List.length_map, List.take_length] at nd
      have fz : fits zs.length = true := fits_of (by omega)
      have hd0 : ∀ z ∈ zs, (0 : Int) < (v z).den := fun z _ => by have := (v z).den_pos; omega
      simp -dsimp [ev, fz]
      refine wp_comI (fun i acc M2 => M2 = M' ∧ acc = (zs.take i).map fun z => D.tup [.str z, .int ((v z).num * (n / (v z).den))]) ?_ ⟨rfl, rfl⟩ ?_
      · rintro i y acc M2 hy ⟨rfl, rfl⟩
        rw [List.getElem?_map] at hy
        obtain ⟨z, hg, rfl⟩ := Option.map_eq_some_iff.mp hy
        have hzm := List.mem_of_getElem? hg
        have sv := hv z hzm
        have d0 := hd0 z hzm
        have q1 : divOk ((v z).den : Int) = true := divOk_of d0 sv.2 (by decide) (by decide)
        have q2 : mulOk (v z).num (n / (v z).den) = true := mulOk_of sv.1 (div_small (nd z hzm) d0 ns) (by decide) (by omega) (by omega)
        simp -dsimp [setAll, q1, q2]
        rw [List.take_succ, List.getElem?_map, hg]; rfl
      · rintro ys M2 ⟨rfl, rfl⟩
        rw [List.length_map, List.take_length]
        have wd := fun {Q : D → MS → Prop} => w_dictP (M := M2) (Q := Q) (w := fun z => D.int ((v z).num * (n / (v z).den))) (d := .lst (zs.map fun z => D.tup [.str z, .int ((v z).num * (n / (v z).den))])) hn (by omega) (.inr rfl)
        have gm : (M2 ++ [MO.dK (kvs (fun z => .int ((v z).num * (n / (v z).den))) zs)])[M2.length]? = some (.dK (kvs (fun z => .int ((v z).num * (n / (v z).den))) zs)) := by simp
        have hu := law_units_ok (u := fun z => (v z).num * (n / (v z).den)) (n := n) gm 5 f hd hf
        have hu2 : F__law_units [fD f, .obj M2.length, .int n] (M2 ++ [MO.dK (kvs (fun z => .int ((v z).num * (n / (v z).den))) zs)]) = _ := hu
        have hval := unF_val (u := fun z => (v z).num * (n / (v z).den)) (v := v) n0 f fun z hz => part_eq (nd z (hf z hz))
        have hfr := lawFractionQ (o := unF (fun z => (v z).num * (n / (v z).den)) n f) (u := n) (M := M2 ++ [MO.dK (kvs (fun z => .int ((v z).num * (n / (v z).den))) zs)]) (by omega) (ns.mono (by omega))
        have hdiv := units_div (by omega) hval
        rw [hdiv] at hfr
        simp -dsimp [wd, wp_of hu2, wp_of hfr]
        exact ⟨_, rfl⟩
    · rintro i y ρ M' hy ⟨rfl, n, z3, z4, rfl, n0, ns, nd⟩
      rw [List.getElem?_map] at hy
      obtain ⟨z, hg, rfl⟩ := Option.map_eq_some_iff.mp hy
      have hi : i < zs.length := (List.getElem?_eq_some_iff.mp hg).1
      have sv := hv z (List.mem_of_getElem? hg)
      have d0 : (0 : Int) < (v z).den := by have := (v z).den_pos; omega
      have gp := gI_pos (o := n) (u := (v z).den) (by omega)
      have m1 : mulOk n (v z).den = true := mulOk_of ns sv.2 (by omega) (by decide) (by omega)
      have g1 : divOk (gI n (v z).den) = true := divOk_of gp ((sv.2).gI (by omega)) (by decide) (by decide)
      simp -dsimp [m1, g1, wp_of (law_common_ok (a := n) (b := (v z).den) (by omega) (by omega) _)]
      have gd1 := gI_dvd1 n (v z).den
      have gd2 := gI_dvd2 n (v z).den
      have e1 : n * (v z).den / gI n (v z).den = n * ((v z).den / gI n (v z).den) := Int.mul_ediv_assoc _ gd2
      have e2 : n * (v z).den / gI n (v z).den = (v z).den * (n / gI n (v z).den) := by rw [Int.mul_comm, Int.mul_ediv_assoc _ gd1]
      have p1 : 0 < (v z).den / gI n (v z).den := Int.ediv_pos_of_pos_of_dvd d0 (by omega) gd2
      refine ⟨by rw [e1]; exact Int.mul_pos n0 p1, ?_, ?_⟩
      · rw [e1]
        exact (ns.mul (div_small gd2 gp sv.2)).mono (by omega)
      · intro y hy
        rw [List.take_succ, hg] at hy
        rcases List.mem_append.mp hy with hy | hy
        · rw [e1]; exact Int.dvd_mul_of_dvd_left (nd y hy)
        · have : y = z := by simpa using hy
          subst this
          rw [e2]; exact Int.dvd_mul_right _ _
  obtain ⟨r, M', e, rfl, u, rfl⟩ := key
  unfold F__law_degree
  refine truncF_same (M := M) (M2 := M) (junk := [.dK (kvs (fun z => .int (u z)) zs)]) e rfl (fun mo h => .inl h) ?_
  exact bd_plain _ _ rfl
theorem law_full_ok {zs : List Str} {v : Str → Rat} {th : List Fo} (hn : zs.Nodup) (hz : zs.length ≤ 20) (hv : ∀ z ∈ zs, SmQ 64 (v z)) (ht : th.length ≤ 1000) (hf : ∀ f ∈ th, (∀ z ∈ nms f, z ∈ zs) ∧ dep f < 5) (M : MS) :
    F__law_full [vsD zs v, .tup (th.map fD)] M = some (.ok (.bl (fullB v th)), M) := by
  refine wp_val ?_
  unfold F__law_full m__law_full
  have ft : fits th.length = true := fits_of (by omega)
  have c1 : D.tup [.int 1, .int 1] = dQ 1 := rfl
  simp -dsimp [ft]
  refine wp_comI (fun i acc M' => M' = M ∧ acc = ((th.take i).filter fun f => !decide (val v f = 1)).map fD) ?_ ⟨rfl, rfl⟩ ?_
  · rintro i x acc M' hx ⟨rfl, rfl⟩
    rw [List.getElem?_map] at hx
    obtain ⟨f, hg, rfl⟩ := Option.map_eq_some_iff.mp hx
    have h := hf f (List.mem_of_getElem? hg)
    simp -dsimp [wp_of (law_degree_ok hn hz hv h.1 h.2 _), c1, eqv_dQ]
    rw [List.take_succ, hg, List.filter_append]
    by_cases c : val v f = 1 <;> simp [c]
  · rintro ys M' ⟨rfl, rfl⟩
    rw [List.length_map, List.take_length]
    have e : decide ((th.filter fun f => !decide (val v f = 1)) = []) = fullB v th := by
      unfold fullB
      rw [Bool.eq_iff_iff, decide_eq_true_eq, List.filter_eq_nil_iff, List.all_eq_true]
      simp
    simp -dsimp
    rw [← e]
    simp

/-! ### valuations told -/
def degB (d : D) : Bool := isFr d && match d with | .tup [.int a, .int b] => decide (0 ≤ a) && decide (a ≤ b) | _ => false
def pairB : D → Bool
  | .tup zs => decide (zs.length = 2)
  | _ => false
def wdB : D → Bool
  | .tup [a, b] => wordB a && degB b
  | _ => false
def fstS : D → Str
  | .tup (.str z :: _) => z
  | _ => Str.empty
def lt2 (zs : List Str) (k : Nat) : Bool := match zs[k]?, zs[k + 1]? with
  | some a, some b => ltS a b
  | _, _ => true
def ascP (zs : List Str) : Bool := (List.range (zs.length - 1)).all (lt2 zs)
def valB : D → Bool
  | .tup xs => xs.all pairB && (xs.all wdB && ascP (xs.map fstS))
  | _ => false
theorem w_geS {M : MS} {Q : D → MS → Prop} {x y : Str} : wp (geD (.str x) (.str y)) M Q = Q (.bl (!ltS x y)) M := wp_of rfl
theorem w_ltS2 {M : MS} {Q : D → MS → Prop} {x y : Str} : wp (ltD (.str x) (.str y)) M Q = Q (.bl (ltS x y)) M := wp_of rfl
theorem tot_item8 {xs : List D} {x : D} (hx : x ∈ xs) (h : tot (.tup xs) ≤ 8000000) : tot x ≤ 8000000 := by
  have := tot_mem hx
  simp only [tot] at h; omega
theorem tot_str8 {x : D} (h : tot x ≤ 8000000) : ∀ z, x = .str z → z.length ≤ 1000000 := by
  rintro z rfl
  simp only [tot] at h; omega
theorem tot_len8 {xs : List D} (h : tot (.tup xs) ≤ 8000000) : xs.length ≤ 1000000 := by
  have := tots_len xs
  simp only [tot] at h; omega
theorem rows_of {xs : List D} (h1 : xs.all pairB = true) (h2 : xs.all wdB = true) : ∃ ps : List (Str × D), xs = ps.map fun p => D.tup [.str p.1, p.2] := by
  induction xs with
  | nil => exact ⟨[], rfl⟩
  | cons x xs ih =>
    simp only [List.all_cons, Bool.and_eq_true] at h1 h2
    obtain ⟨ps, rfl⟩ := ih h1.2 h2.2
    have := h2.1
    unfold wdB at this
    split at this
    · rename_i a b
      cases a <;> first | exact ⟨(_, b) :: ps, rfl⟩ | (simp [wordB] at this; done)
    · cases this
theorem fstS_map (ps : List (Str × D)) : (ps.map fun p => D.tup [.str p.1, p.2]).map fstS = ps.map (·.1) := by
  rw [List.map_map]; rfl
theorem rng1_get {n i : Nat} {x : D} (h : (rngL 1 (n : Int))[i]? = some x) : i + 1 < n ∧ x = .int ((i + 1 : Nat) : Int) := by
  unfold rngL at h
  obtain ⟨hl, e⟩ := List.getElem?_eq_some_iff.mp h
  simp at hl e
  exact ⟨by omega, by rw [← e]; congr 1; omega⟩
theorem pair_case (y : D) : (∃ a b, y = .tup [a, b]) ∨ pairB y = false := by
  cases y with
  | tup zs =>
    match zs with
    | [a, b] => exact .inl ⟨a, b, rfl⟩
    | [] => exact .inr rfl
    | [_] => exact .inr rfl
    | _ :: _ :: _ :: r => exact .inr (decide_eq_false (p := r.length + 1 + 1 + 1 = 2) (by omega))
  | _ => exact .inr rfl
theorem take_map_all {α β : Type} (f : α → β) (xs : List α) : (xs.map f).take xs.length = xs.map f := by rw [← List.length_map (f := f), List.take_length]
theorem take_map_all' {β : Type} (f : Nat → β) (m : Nat) : ((List.range m).map f).take (List.range m).length = (List.range m).map f := take_map_all f _
theorem w_allM {α : Type} {f : α → Bool} {xs : List α} {b : Bool} {M : MS} {Q : D → MS → Prop} (h : xs.all f = b) : wp (allD [.lst (xs.map fun x => D.bl (f x))]) M Q = Q (.bl b) M := by
  rw [w_allL (blsOf_map (f := f) xs), List.all_map]
  have : (xs.all (id ∘ f)) = b := h
  rw [this]
theorem ascP_succ {zs : List Str} {m : Nat} (h : zs.length = m + 1) : ascP zs = (List.range m).all (lt2 zs) := by unfold ascP; rw [h]; rfl
theorem isFr_pair {d : D} (h : pairB d = false) : isFr d = false := by
  cases d with
  | tup zs =>
    match zs, h with
    | [], _ => rfl
    | [x], _ => cases x <;> rfl
    | [_, _], h => exact absurd h (by simp [pairB])
    | a :: b :: c :: r, _ => cases a <;> first | rfl | (cases b <;> rfl)
  | _ => rfl
theorem is_degreeB {d : D} (h : DL.plain d = true) (M : MS) : F_is_degree [d] M = some (.ok (.bl (degB d)), M) := by
  rw [is_degree_ok h M]
  rcases pair_case d with ⟨a, b, rfl⟩ | hn
  · cases a <;> first | rfl | (cases b <;> rfl)
  · unfold degB; rw [isFr_pair hn]; rfl
theorem law_is_degreeB {d : D} (h : DL.plain d = true) (M : MS) : F__law_is_degree [d] M = some (.ok (.bl (degB d)), M) := by
  rw [law_is_degree_ok h M]
  rcases pair_case d with ⟨a, b, rfl⟩ | hn
  · cases a <;> first | rfl | (cases b <;> rfl)
  · unfold degB; rw [isFr_pair hn]; rfl
theorem is_valuation_ok {d : D} (h : DL.plain d = true) (ht : tot d ≤ 8000000) (M : MS) : F_is_valuation [d] M = some (.ok (.bl (valB d)), M) := by
  refine wp_val ?_
  unfold F_is_valuation m_is_valuation
  cases d with
  | tup xs =>
    have hl := tot_len8 ht
    have t1 : isT .tuple (.tup xs) = true := rfl
    simp -dsimp [t1, fits_of hl]
    refine wp_comI (fun i acc M' => M' = M ∧ acc = (xs.map fun x => D.bl (pairB x)).take i) ?_ ⟨rfl, rfl⟩ ?_
    · rintro i y acc M' hy ⟨rfl, rfl⟩
      have hm := List.mem_of_getElem? hy
      have hp := plain_item hm h
      rw [List.take_succ, List.getElem?_map, hy]
      by_cases ty : isT .tuple y = true
      · cases y with
        | tup zs =>
          simp -dsimp [ty]
          simp [pairB]
          omega
        | _ => cases ty
      · have ty' : isT .tuple y = false := by simpa using ty
        simp -dsimp [w_isi hp, ty']
        cases y <;> first | rfl | exact absurd rfl ty
    · rintro ys M' ⟨rfl, rfl⟩
      rw [take_map_all]
      cases hA : xs.all pairB with
      | false =>
        have e : valB (.tup xs) = false := by show (xs.all pairB && _) = false; rw [hA]; rfl
        simp -dsimp [w_allM hA, e]
      | true =>
        simp -dsimp [w_allM hA, fits_of hl]
        refine wp_comI (fun i acc M2 => M2 = M' ∧ acc = (xs.map fun x => D.bl (wdB x)).take i) ?_ ⟨rfl, rfl⟩ ?_
        · rintro i y acc M2 hy ⟨rfl, rfl⟩
          have hm := List.mem_of_getElem? hy
          have hp := plain_item hm h
          have htt := tot_item8 hm ht
          rw [List.take_succ, List.getElem?_map, hy]
          rcases pair_case y with ⟨a, b, rfl⟩ | hn
          · obtain ⟨pa, pb⟩ := plain_tup2 hp
            have za := tot_str8 (tot_item8 (x := a) (by simp) htt)
            cases ea : wordB a with
            | false => simp -dsimp [wp_of (is_word_ok pa za _), ea, wdB]
            | true =>
              simp -dsimp [wp_of (is_word_ok pa za _), ea]
              refine wp_call (is_degreeB pb _) ?_
              simp [wdB, ea]
          · rw [List.all_eq_true] at hA
            rw [hA y hm] at hn; cases hn
        · rintro ys M2 ⟨rfl, rfl⟩
          rw [take_map_all]
          cases hB : xs.all wdB with
          | false =>
            have e : valB (.tup xs) = false := by show (xs.all pairB && (xs.all wdB && _)) = false; rw [hA, hB]; rfl
            simp -dsimp [w_allM hB, e]
          | true =>
            have e : valB (.tup xs) = ascP (xs.map fstS) := by show (xs.all pairB && (xs.all wdB && _)) = _; rw [hA, hB]; rfl
            rw [e]
            simp -dsimp [w_allM hB]
            obtain ⟨ps, rfl⟩ := rows_of hA hB
            rw [fstS_map]
            rw [List.length_map] at hl
            cases hps : ps.length with
            | zero =>
              obtain rfl := List.length_eq_zero_iff.mp hps
              simp -dsimp [small62, rngL, fits_of]
              refine wp_comI (xs0 := []) (fun i acc M3 => M3 = M2 ∧ acc = []) ?_ ⟨rfl, rfl⟩ ?_
              · rintro i y acc M3 hy; cases hy
              · rintro ys M3 ⟨rfl, rfl⟩
                simp -dsimp [w_allL (bs := []) (show blsOf [] = some [] from rfl)]
                rfl
            | succ m =>
              have e1 : (((ps.map fun p => D.tup [.str p.1, p.2]).length : Nat) : Int) - 1 = (m : Int) := by rw [List.length_map]; omega
              have sm := small62_nat (n := m) (by omega)
              have fm := fits_of (n := m) (by omega)
              rw [ascP_succ (m := m) (by rw [List.length_map]; exact hps)]
              simp -dsimp [hps, sm, fm]
              refine wp_comI (fun i acc M3 => M3 = M2 ∧ acc = ((List.range m).map fun k => D.bl (lt2 (ps.map (·.1)) k)).take i) ?_ ⟨rfl, rfl⟩ ?_
              · rintro i y acc M3 hy ⟨rfl, rfl⟩
                obtain ⟨hi, rfl⟩ := rng_get hy
                have h1 : ps[i]? = some ps[i] := List.getElem?_eq_getElem (by omega)
                have h2 : ps[i + 1]? = some ps[i + 1] := List.getElem?_eq_getElem (by omega)
                generalize ps[i] = p at h1
                generalize ps[i + 1] = q at h2
                have hk2 : atI (ps.map fun p => D.tup [.str p.1, p.2]) ((i : Int) + 1) = some (D.tup [.str q.1, q.2]) := by
                  rw [show (i : Int) + 1 = ((i + 1 : Nat) : Int) from rfl, DL.atI_nat]; simp [h2]
                simp -dsimp [h1, hk2, w_ltS2]
                rw [List.take_succ, List.getElem?_map, List.getElem?_range hi]
                simp [lt2, h1, h2]
              · rintro ys M3 ⟨rfl, rfl⟩
                rw [List.length_map, take_map_all']
                simp -dsimp [w_allM (f := lt2 (ps.map (·.1))) (xs := List.range m) (b := (List.range m).all (lt2 (ps.map (·.1)))) rfl]
  | _ => first | (simp -dsimp [isT, valB]; done) | (simp [DL.plain] at h; done)
theorem law_is_valuation_ok {d : D} (h : DL.plain d = true) (ht : tot d ≤ 8000000) (M : MS) : F__law_is_valuation [d] M = some (.ok (.bl (valB d)), M) := by
  refine wp_val ?_
  unfold F__law_is_valuation m__law_is_valuation
  have flt : ∀ (p : D → Bool) (xs : List D), (xs.filter fun x => !p x) = [] ↔ xs.all p = true := fun p xs => by
    rw [List.filter_eq_nil_iff, List.all_eq_true]
    simp
  cases d with
  | tup xs =>
    have hl := tot_len8 ht
    have t1 : isT .tuple (.tup xs) = true := rfl
    simp -dsimp [t1, fits_of hl]
    refine wp_comI (fun i acc M' => M' = M ∧ acc = (xs.take i).filter fun x => !pairB x) ?_ ⟨rfl, rfl⟩ ?_
    · rintro i y acc M' hy ⟨rfl, rfl⟩
      have hm := List.mem_of_getElem? hy
      have hp := plain_item hm h
      rw [List.take_succ, hy, List.filter_append]
      by_cases ty : isT .tuple y = true
      · cases y with
        | tup zs =>
          by_cases c : (zs.length : Int) = 2
          · have e : pairB (.tup zs) = true := decide_eq_true (by omega)
            simp -dsimp [ty, c, e]
          · have e : pairB (.tup zs) = false := decide_eq_false (by omega)
            simp -dsimp [ty, c, e]
        | _ => cases ty
      · have ty' : isT .tuple y = false := by simpa using ty
        have e : pairB y = false := by cases y <;> first | rfl | exact absurd rfl ty
        simp -dsimp [w_isi hp, ty', e]
    · rintro ys M' ⟨rfl, rfl⟩
      rw [List.take_length]
      have fA := flt pairB xs
      generalize hF : (xs.filter fun x => !pairB x) = F at *
      cases hA : xs.all pairB with
      | false =>
        have e : valB (.tup xs) = false := by show (xs.all pairB && _) = false; rw [hA]; rfl
        have fA' : ¬ F = [] := fun z => by rw [fA, hA] at z; cases z
        simp -dsimp [fA', e]
      | true =>
        have fA' := fA.mpr hA
        simp -dsimp [fA', fits_of hl]
        refine wp_comI (fun i acc M2 => M2 = M' ∧ acc = (xs.take i).filter fun x => !wdB x) ?_ ⟨rfl, rfl⟩ ?_
        · rintro i y acc M2 hy ⟨rfl, rfl⟩
          have hm := List.mem_of_getElem? hy
          have hp := plain_item hm h
          have htt := tot_item8 hm ht
          rw [List.take_succ, hy, List.filter_append]
          rcases pair_case y with ⟨a, b, rfl⟩ | hn
          · obtain ⟨pa, pb⟩ := plain_tup2 hp
            have za := tot_str8 (tot_item8 (x := a) (by simp) htt)
            cases ea : wordB a with
            | false =>
              have e : wdB (.tup [a, b]) = false := by simp [wdB, ea]
              simp -dsimp [wp_of (law_is_word_ok pa za _), ea, e]
            | true =>
              have e : wdB (.tup [a, b]) = degB b := by simp [wdB, ea]
              cases eb : degB b with
              | false =>
                rw [eb] at e
                simp -dsimp [wp_of (law_is_word_ok pa za _), ea, wp_of (law_is_degreeB pb _), eb, e]
              | true =>
                rw [eb] at e
                simp -dsimp [wp_of (law_is_word_ok pa za _), ea, wp_of (law_is_degreeB pb _), eb, e]
          · rw [List.all_eq_true] at hA
            rw [hA y hm] at hn; cases hn
        · rintro ys M2 ⟨rfl, rfl⟩
          rw [List.take_length]
          have fB := flt wdB xs
          generalize hG : (xs.filter fun x => !wdB x) = G at *
          cases hB : xs.all wdB with
          | false =>
            have e : valB (.tup xs) = false := by show (xs.all pairB && (xs.all wdB && _)) = false; rw [hA, hB]; rfl
            have fB' : ¬ G = [] := fun z => by rw [fB, hB] at z; cases z
            simp -dsimp [fB', e]
          | true =>
            have e : valB (.tup xs) = ascP (xs.map fstS) := by show (xs.all pairB && (xs.all wdB && _)) = _; rw [hA, hB]; rfl
            have fB' := fB.mpr hB
            rw [e]
            simp -dsimp [fB']
            obtain ⟨ps, rfl⟩ := rows_of hA hB
            rw [fstS_map]
            rw [List.length_map] at hl
            have sm := small62_nat (n := ps.length) (by omega)
            have s1 : small62 1 = true := by decide
            have fm : fits (rngL 1 (ps.length : Int)).length = true := fits_of (by unfold rngL; simp; omega)
            simp -dsimp [sm, s1, fm]
            refine wp_comI (fun i acc M3 => M3 = M2 ∧ acc.length = (((List.range (ps.length - 1)).take i).filter fun k => !lt2 (ps.map (·.1)) k).length) ?_ ⟨rfl, rfl⟩ ?_
            · rintro i y acc M3 hy ⟨rfl, ha⟩
              obtain ⟨hi, rfl⟩ := rng1_get hy
              have h1 : ps[i]? = some ps[i] := List.getElem?_eq_getElem (by omega)
              have h2 : ps[i + 1]? = some ps[i + 1] := List.getElem?_eq_getElem (by omega)
              have e2 : ((i + 1 : Nat) : Int) - 1 = (i : Int) := by omega
              generalize ps[i] = p at h1
              generalize ps[i + 1] = q at h2
              rw [List.take_succ, List.getElem?_range (by omega), List.filter_append, List.length_append, ← ha]
              have e3 : lt2 (ps.map (·.1)) i = ltS p.1 q.1 := by simp [lt2, h1, h2]
              have hix : (ps.map fun p => D.tup [.str p.1, p.2])[i + 1]? = some (D.tup [.str q.1, q.2]) := by simp [h2]
              generalize hk : ((i + 1 : Nat) : Int) = kk at *
              have hk2 : atI (ps.map fun p => D.tup [.str p.1, p.2]) kk = some (D.tup [.str q.1, q.2]) := by rw [← hk, DL.atI_nat]; exact hix
              cases hlt : ltS p.1 q.1 with
              | true =>
                rw [hlt] at e3
                simp -dsimp [h1, hk2, e2, w_geS, hlt, e3]
              | false =>
                rw [hlt] at e3
                simp -dsimp [h1, hk2, e2, w_geS, hlt, e3]
            · rintro ys M3 ⟨rfl, ha⟩
              have el : (rngL 1 (ps.length : Int)).length = (List.range (ps.length - 1)).length := by unfold rngL; simp
              rw [el, List.take_length] at ha
              have : decide ((ys.length : Int) = 0) = ascP (ps.map (·.1)) := by
                unfold ascP
                rw [List.length_map, Bool.eq_iff_iff, decide_eq_true_eq, List.all_eq_true]
                have : ((ys.length : Int) = 0) ↔ ((List.range (ps.length - 1)).filter fun k => !lt2 (ps.map (·.1)) k) = [] := by rw [← List.length_eq_zero_iff, ← ha]; omega
                rw [this, List.filter_eq_nil_iff]
                simp
              simp -dsimp
              simpa using this
  | _ => first | (simp -dsimp [isT, valB]; done) | (simp [DL.plain] at h; done)

theorem part_01 {u n : Int} (n0 : 0 < n) (h0 : 0 ≤ u) (h1 : u ≤ n) : 0 ≤ Rat.divInt u n ∧ Rat.divInt u n ≤ 1 := by
  have hn : (0 : Rat) < (n : Rat) := by rw [show (0 : Rat) = ((0 : Int) : Rat) from rfl, Rat.intCast_lt_intCast]; exact n0
  have hu : (0 : Rat) ≤ (u : Rat) := by rw [show (0 : Rat) = ((0 : Int) : Rat) from rfl, Rat.intCast_le_intCast]; exact h0
  have hl : (u : Rat) ≤ (n : Rat) := by rw [Rat.intCast_le_intCast]; exact h1
  rw [Rat.divInt_eq_div]
  have hne := cast_ne (show n ≠ 0 by omega)
  have e : (n : Rat) * ((u : Rat) / n) = u := by grind
  generalize (u : Rat) / n = x at e
  refine ⟨Rat.not_lt.mp fun z => ?_, Rat.not_lt.mp fun z => ?_⟩
  · have := (Rat.mul_lt_mul_left hn).mpr z
    grind
  · have := (Rat.mul_lt_mul_left hn).mpr z
    grind
theorem law_valuation_ok {M : MS} {p : Nat} {zs : List Str} {m : Nat} {q : PoolS} {c n : Nat} (hp : p < M.length) (hs : srtS zs = zs) (hn : zs.Nodup) (hl : zs.length < 64) (n0 : 0 < n) (hm : n < 2 ^ m) (hm8 : m ≤ 60) (ok : PoolOk q c) (hc : c + zs.length ≤ 1000000) :
    wp (F__law_valuation [.obj p, .lst (zs.map D.str), .int n]) (M.set p (poolL q)) fun r M' => ∃ v q', r = vsD zs v ∧ (∀ z ∈ zs, SmQ m (v z) ∧ 0 ≤ v z ∧ v z ≤ 1) ∧ M' = M.set p (poolL q') ∧ PoolOk q' (c + zs.length) := by
  unfold F__law_valuation m__law_valuation
  have m0 : m ≠ 0 := fun z => by rw [z] at hm; simp at hm; omega
  have fz := fits_of (n := zs.length) (by omega)
  have hw := fun {M : MS} {Q : D → MS → Prop} => w_sorted (M := M) (Q := Q) (strsOf_map zs) hl
  rw [hs] at hw
  simp -dsimp [hw, fz]
  refine wp_comI (fun i acc M' => ∃ (v : Str → Rat) (q' : PoolS), acc = (zs.take i).map (fun z => D.tup [.str z, dQ (v z)]) ∧ (∀ z ∈ zs.take i, SmQ m (v z) ∧ 0 ≤ v z ∧ v z ≤ 1) ∧ M' = M.set p (poolL q') ∧ PoolOk q' (c + i)) ?_ ⟨fun _ => 0, q, rfl, by simp, rfl, ok⟩ ?_
  · rintro i y acc M' hy ⟨v, q1, rfl, hv, rfl, ok1⟩
    rw [List.getElem?_map] at hy
    obtain ⟨z, hg, rfl⟩ := Option.map_eq_some_iff.mp hy
    have hi := (List.getElem?_eq_some_iff.mp hg).1
    have big : n < 2 ^ 60 := Nat.lt_of_lt_of_le hm (Nat.pow_le_pow_right (by decide) hm8)
    simp -dsimp
    refine wp_mono (draw_ok hp ok1 (by omega) (by omega) (Sm.of_lt (by omega) (by omega))) ?_
    rintro r M' ⟨u, q2, rfl, u0, u1, rfl, ok2⟩
    have sn : Sm m (n : Int) := by unfold Sm; omega
    have su : Sm m u := by unfold Sm; omega
    have hnz : (n : Int) ≠ 0 := by omega
    have hfr := lawFractionQ (o := u) (u := n) (M := M.set p (poolL q2)) hnz (sn.mono (by omega))
    have b1 := divInt_sm hnz su sn
    have b2 := part_01 (u := u) (n := n) (by omega) u0 (by omega)
    generalize Rat.divInt u n = q0 at hfr b1 b2
    simp -dsimp [-List.map_take, wp_of hfr]
    have hzn : z ∉ zs.take i := fun h => by
      have h2 := (List.take_append_drop i zs).symm
      have h3 : zs.drop i = z :: zs.drop (i + 1) := by
        rw [List.drop_eq_getElem_cons hi]
        rw [List.getElem?_eq_getElem hi] at hg
        rw [Option.some.inj hg]
      rw [h2, h3] at hn
      exact (List.nodup_append.mp hn).2.2 z h z List.mem_cons_self rfl
    refine ⟨fun y => if y = z then q0 else v y, ?_, ?_, q2, rfl, ok2⟩
    · rw [List.take_succ, hg]
      simp only [Option.toList_some, List.map_append, List.map_cons, List.map_nil, if_true]
      congr 1
      refine List.map_congr_left fun y hy => ?_
      have : y ≠ z := fun e => hzn (e ▸ hy)
      simp [this]
    · intro y hy
      rw [List.take_succ, hg] at hy
      by_cases e : y = z
      · subst e
        simp only [if_true]
        exact ⟨b1, b2⟩
      · simp only [e, if_false]
        rcases List.mem_append.mp hy with hy | hy
        · exact hv y hy
        · exact absurd (by simpa using hy) e
  · rintro ys M' ⟨v, q1, rfl, hv, rfl, ok1⟩
    rw [List.length_map] at ok1 hv
    rw [List.length_map, List.take_length]
    rw [List.take_length] at hv
    simp -dsimp
    exact ⟨v, rfl, hv, q1, rfl, ok1⟩

theorem showB_tot {k m : Nat} {d : D} (hm : 8 ≤ m) (h : showB k m d) : tot d ≤ m := by
  rcases h with rfl | h
  · exact hm
  · exact h.2
theorem w_mul2 {x : D} {M : MS} {Q : D → MS → Prop} : wp (DL.mulD (.lst [x]) (.int 2)) M Q = Q (.lst [x, x]) M := wp_of (by
  have : (decide (-(2 ^ 63) ≤ (2:Int)) && decide ((2:Int) < 2 ^ 63) && fits ([x].length * (2:Int).toNat)) = true := by simp [fits_of]
  show (if (decide (-(2 ^ 63) ≤ (2:Int)) && decide ((2:Int) < 2 ^ 63) && fits ([x].length * (2:Int).toNat)) = true then (Mo.ret (.lst (List.replicate (2:Int).toNat [x]).flatten) : Mo D) else Mo.stop) M = _
  rw [if_pos this]
  rfl)
theorem tots_map {k : Nat} : ∀ {fs : List Fo}, (∀ f ∈ fs, dep f ≤ k ∧ ∀ z ∈ nms f, z.length ≤ 12) → tots (fs.map fD) ≤ 300 * 2 ^ k * fs.length
  | [], _ => by simp [tots]
  | f :: fs, h => by
    have h1 := tots_map (fs := fs) fun g hg => h g (List.mem_cons_of_mem _ hg)
    have h2 := tot_fD (h f List.mem_cons_self).2
    have h3 : 2 ^ dep f ≤ 2 ^ k := Nat.pow_le_pow_right (by decide) (h f List.mem_cons_self).1
    simp only [List.map_cons, tots, List.length_cons, Nat.mul_add, Nat.mul_one]
    omega
theorem szs_map {j k : Nat} : ∀ {fs : List Fo}, (∀ f ∈ fs, dep f ≤ k) → ((fs.map fD).map (szB j)).sum ≤ 5 * 2 ^ k * fs.length
  | [], _ => by simp
  | f :: fs, h => by
    have h1 := szs_map (j := j) (fs := fs) fun g hg => h g (List.mem_cons_of_mem _ hg)
    have h2 := szB_fD (f := f) (k := j)
    have h3 : 2 ^ dep f ≤ 2 ^ k := Nat.pow_le_pow_right (by decide) (h f List.mem_cons_self)
    simp only [List.map_cons, List.sum_cons, List.length_cons, Nat.mul_add, Nat.mul_one]
    omega
theorem flat_len {k : Nat} : ∀ {gs : List Fo}, (∀ g ∈ gs, dep g ≤ k) → (gs.flatMap nms).length ≤ 2 ^ k * gs.length
  | [], _ => by simp
  | g :: gs, h => by
    have h1 := flat_len (gs := gs) fun f hf => h f (List.mem_cons_of_mem _ hf)
    have h2 := nms_le g
    have h3 := fsz_le g
    have h5 : 2 ^ dep g ≤ 2 ^ k := Nat.pow_le_pow_right (by decide) (h g List.mem_cons_self)
    simp only [List.flatMap_cons, List.length_append, List.length_cons, Nat.mul_add, Nat.mul_one]
    omega
theorem namesS_len (fs : List Fo) : (namesS fs).length = (setS (fs.flatMap nms)).length := (srtS_perm _).length_eq
theorem okS_strs {k : Nat} {ss : List Str} (h : ss.length ≤ 1000000) : okS (k + 2) (.lst (ss.map D.str)) = true := by
  simp only [okS, Bool.and_eq_true, decide_eq_true_eq, List.all_eq_true]
  refine ⟨by simpa using h, fun y hy => ?_⟩
  obtain ⟨z, _, rfl⟩ := List.mem_map.mp hy
  rfl
theorem bentD_ok {M : MS} {p : Nat} {q : PoolS} {c n : Nat} {d : D} (ht : ∃ x xs, d = .tup (x :: xs)) (hp : p < M.length) (ok : PoolOk q c) (hc : c + 2 * n ≤ 1000000) (hd : okB 6 d = true) (hv : vB 5 d = true) (hz : szB 6 d ≤ 100000) (hn : n ≤ 100) :
    wp (F__law_bent [.obj p, d, .int n]) (M.set p (poolL q)) fun r M' => ∃ q' ys, r = .lst ys ∧ (∀ y ∈ ys, showB 14 (11 * tot d + 300) y) ∧ ys.length ≤ 205 ∧ M' = M.set p (poolL q') ∧ PoolOk q' (c + 2 * n) := by
  obtain ⟨x, xs, rfl⟩ := ht
  exact bentV_ok hp ok hc hd hv hz hn

end Law
namespace Law
open PySem PySem.Spec PyProof.Rows L2 DL
theorem tots_vs {v : Str → Rat} {m P : Nat} (hP : 2 ^ m = P) : ∀ {zs : List Str}, (∀ z ∈ zs, z.length ≤ 12 ∧ SmQ m (v z)) → tots (zs.map fun z => D.tup [.str z, .tup [.int (v z).num, .int (v z).den]]) ≤ zs.length * (240 + 2 * P)
  | [], _ => by simp [tots]
  | z :: zs, h => by
    have h1 := tots_vs hP (zs := zs) fun y hy => h y (List.mem_cons_of_mem _ hy)
    have h2 := (h z List.mem_cons_self).1
    have h3 := (h z List.mem_cons_self).2.1
    have h4 := (h z List.mem_cons_self).2.2
    unfold Sm at h3 h4
    rw [hP] at h3 h4
    rw [List.length_cons, Nat.succ_mul]
    generalize zs.length * (240 + 2 * P) = T at *
    simp only [List.map_cons, tots, tot]
    omega
theorem vB_row {z : Str} {q : Rat} (h : codesB z = true) : vB 3 (.tup [.str z, dQ q]) = true := by
  simp [vB, h, dQ]
theorem szs_row {k : Nat} {v : Str → Rat} : ∀ zs : List Str, ((zs.map fun z => D.tup [.str z, .tup [.int (v z).num, .int (v z).den]]).map (szB (k + 2))).sum = 5 * zs.length
  | [] => rfl
  | z :: zs => by
    have := szs_row (k := k) (v := v) zs
    have e : szB (k + 2) (.tup [.str z, .tup [.int (v z).num, .int (v z).den]]) = 5 := by cases k <;> rfl
    rw [List.map_cons, List.map_cons, List.sum_cons, this, e, List.length_cons]; omega
theorem okB_row {z : Str} {q : Rat} {k : Nat} (h : SmQ 64 q) : okB (k + 3) (.tup [.str z, .tup [.int q.num, .int q.den]]) = true := by
  have h1 := log2_lt h.1 (by decide)
  have h2 := log2_lt h.2 (by decide)
  have h3 : q.num.natAbs.log2 < 1900 := by omega
  have h4 : ((q.den : Int)).natAbs.log2 < 1900 := by omega
  simp [okB, h3]
  simpa using h4
theorem abc_srt : srtS ([("a" : Str), "b", "c"] : List Str) = ([("a" : Str), "b", "c"] : List Str) := by decide +kernel
theorem ext_v {zs : List Str} (hn : zs.Nodup) {i : Nat} {z : Str} (hg : zs[i]? = some z) {v : Str → Rat} {q0 : Rat} {P : Rat → Prop} (hv : ∀ y ∈ zs.take i, P (v y)) (h0 : P q0) :
    ∃ v' : Str → Rat, (zs.take i).map (fun z => D.tup [.str z, dQ (v z)]) ++ [.tup [.str z, dQ q0]] = (zs.take (i + 1)).map (fun z => D.tup [.str z, dQ (v' z)]) ∧ ∀ y ∈ zs.take (i + 1), P (v' y) := by
  have hi := (List.getElem?_eq_some_iff.mp hg).1
  have hzn : z ∉ zs.take i := fun h => by
    have h2 := (List.take_append_drop i zs).symm
    have h3 : zs.drop i = z :: zs.drop (i + 1) := by
      rw [List.drop_eq_getElem_cons hi]
      rw [List.getElem?_eq_getElem hi] at hg
      rw [Option.some.inj hg]
    rw [h2, h3] at hn
    exact (List.nodup_append.mp hn).2.2 z h z List.mem_cons_self rfl
  refine ⟨fun y => if y = z then q0 else v y, ?_, ?_⟩
  · rw [List.take_succ, hg]
    simp only [Option.toList_some, List.map_append, List.map_cons, List.map_nil, if_true]
    congr 1
    refine List.map_congr_left fun y hy => ?_
    have : y ≠ z := fun e => hzn (e ▸ hy)
    simp [this]
  · intro y hy
    rw [List.take_succ, hg] at hy
    by_cases e : y = z
    · simp only [e, if_true]; exact h0
    · simp only [e, if_false]
      rcases List.mem_append.mp hy with hy | hy
      · exact hv y hy
      · exact absurd (by simpa using hy) e
theorem abc_codes {z : Str} (h : z ∈ ([("a" : Str), "b", "c"] : List Str)) : codesB z = true ∧ z.length ≤ 12 := by
  simp only [List.mem_cons, List.not_mem_nil, or_false] at h
  rcases h with rfl | rfl | rfl <;> exact ⟨codes_str _, by decide⟩
theorem law_true (ns : List Int) (hl : ns.length ≤ 63) : ∃ M', F_law [.scr ns] [] = some (.ok (.bl true), M') := by
  suffices h : wp (F_law [.scr ns]) [] fun r _ => r = .bl true by
    obtain ⟨r, M', e, rfl⟩ := h
    exact ⟨M', e⟩
  unfold F_law m_law
  simp -dsimp
  refine wp_mono (pool_ok (by omega) _) ?_
  rintro r M ⟨q, rfl, rfl, ok⟩
  obtain ⟨B, hB, eB⟩ : ∃ B : MS, 0 < B.length ∧ ([] ++ [poolL q] : MS) = B.set 0 (poolL q) := ⟨[MO.gone], by decide, rfl⟩
  rw [eB]
  clear eB
  obtain ⟨zs, zm, zn, zsr, zc, zl⟩ : ∃ zs : List Str, zs.map D.str = [.str "a", .str "b", .str "c"] ∧ zs.Nodup ∧ srtS zs = zs ∧ (∀ z ∈ zs, codesB z = true ∧ z.length ≤ 12) ∧ zs.length = 3 ∧ ("a" : Str) ∈ zs := ⟨["a", "b", "c"], rfl, by decide, abc_srt, fun z hz => abc_codes hz, rfl, by simp⟩
  obtain ⟨zl, za⟩ := zl
  simp -dsimp
  refine wp_mono (draw_ok hB ok (by decide) (by decide) (by decide)) ?_
  rintro r M' ⟨v, q1, rfl, v0, v1, rfl, ok1⟩
  obtain ⟨n, rfl⟩ := Int.eq_ofNat_of_zero_le v0
  simp -dsimp
  have lv := law_valuation_ok (m := 6) (n := 1 + n) hB zsr zn (by omega) (by omega) (by omega) (by decide) ok1 (by omega)
  rw [zm] at lv
  refine wp_mono lv ?_
  clear lv
  rintro r M' ⟨va, q2, rfl, hva, rfl, ok2⟩
  replace ok2 := ok2.mono (show _ ≤ 4 by omega)
  simp -dsimp
  refine wp_mono (draw_ok hB ok2 (by decide) (by decide) (by decide)) ?_
  rintro r M' ⟨k1, q3, rfl, k10, k11, rfl, ok3⟩
  simp -dsimp
  refine wp_mono (draw_ok hB ok3 (by decide) (by decide) (by decide)) ?_
  rintro r M' ⟨k2, q4, rfl, k20, k21, rfl, ok4⟩
  simp -dsimp
  refine wp_mono (draw_ok hB ok4 (by decide) (by decide) (by decide)) ?_
  rintro r M' ⟨k3, q5, rfl, k30, k31, rfl, ok5⟩
  simp -dsimp
  refine ⟨fits_of (by decide), ?_⟩
  refine wp_comI (fun i acc M' => ∃ (v : Str → Rat) (q' : PoolS), acc = (zs.take i).map (fun z => D.tup [.str z, dQ (v z)]) ∧ (∀ z ∈ zs.take i, SmQ 20 (v z)) ∧ M' = B.set 0 (poolL q') ∧ PoolOk q' (10 + i)) ?_ ⟨fun _ => 0, q5, rfl, by simp, rfl, ok5.mono (by decide)⟩ ?_
  · rintro i x acc M' hx ⟨v, q6, rfl, hv, rfl, ok6⟩
    obtain ⟨a, b, ha, hb, rfl⟩ := zipL_get hx
    obtain ⟨z, hg, rfl⟩ : ∃ z, zs[i]? = some z ∧ a = .str z := by
      rw [← zm, List.getElem?_map] at ha
      have this := ha
      obtain ⟨z, h1, h2⟩ := Option.map_eq_some_iff.mp this
      exact ⟨z, h1, h2.symm⟩
    obtain ⟨k, rfl, kl, kh⟩ : ∃ k : Int, b = .int k ∧ 1 ≤ k ∧ k ≤ 1000000 := by
      have hm := List.mem_of_getElem? hb
      simp only [List.mem_cons, List.not_mem_nil, or_false] at hm
      rcases hm with rfl | rfl | rfl <;> exact ⟨_, rfl, by omega, by omega⟩
    have hi : i < 3 := by have := (List.getElem?_eq_some_iff.mp hg).1; omega
    simp -dsimp [setAll]
    refine wp_mono (draw_ok hB ok6 (by omega) (by omega) (Sm.of_lt (by omega) (by omega))) ?_
    rintro r M' ⟨u, q7, rfl, u0, u1, rfl, ok7⟩
    have sk : Sm 20 k := by unfold Sm; omega
    have su : Sm 20 u := by unfold Sm; omega
    have hk : k ≠ 0 := by omega
    have hfr := lawFractionQ (o := u) (u := k) (M := B.set 0 (poolL q7)) hk (sk.mono (by omega))
    have b1 := divInt_sm hk su sk
    generalize Rat.divInt u k = q0 at hfr b1
    obtain ⟨v', e1, e2⟩ := ext_v zn hg hv b1
    simp -dsimp [-List.map_take, setAll, wp_of hfr]
    exact ⟨v', e1, e2, q7, rfl, ok7⟩
  rintro ys M' ⟨vb, q6, rfl, hvb, rfl, ok6⟩
  have zl2 : (zipL [D.str "a", .str "b", .str "c"] [D.int (2 + k1), .int (2 + k2), .int (1 + k3)]).length = 3 := rfl
  rw [zl2] at hvb ok6 ⊢
  rw [List.take_of_length_le (by omega)] at hvb ⊢
  simp -dsimp
  have evb : D.tup (List.map (fun z => D.tup [D.str z, dQ (vb z)]) zs) = vsD zs vb := rfl
  rw [evb]
  have zne : zs ≠ [] := fun z => by rw [z] at zl; cases zl
  have h64 : ∀ v, v = va ∨ v = vb → ∀ z ∈ zs, SmQ 64 (v z) := fun v h z hz => by
    rcases h with rfl | rfl
    · exact (hva z hz).1.mono (by decide)
    · exact (hvb z hz).mono (by decide)
  refine wp_forI (fun i ρ M' => ∃ (q' : PoolS) (z5 z6 z7 z8 : Option D), ρ = [some (.scr ns), some (.obj 0), some (.lst [.str "a", .str "b", .str "c"]), some (vsD zs va), some (vsD zs vb), z5, z6, z7, z8, none, none, none] ∧ M' = B.set 0 (poolL q') ∧ PoolOk q' (13 + 600 * i)) ?_ ?_ ⟨q6, _, _, _, _, rfl, rfl, ok6⟩
  case refine_2 =>
    rintro i y ρ M' hy ⟨q7, z5, z6, z7, z8, rfl, rfl, ok7⟩
    have hi : i < 2 := (List.getElem?_eq_some_iff.mp hy).1
    obtain ⟨v, rfl, hv⟩ : ∃ v, y = vsD zs v ∧ ∀ z ∈ zs, SmQ 64 (v z) := by
      have hm := List.mem_of_getElem? hy
      simp only [List.mem_cons, List.not_mem_nil, or_false] at hm
      rcases hm with rfl | rfl
      · exact ⟨va, rfl, h64 _ (.inl rfl)⟩
      · exact ⟨vb, rfl, h64 _ (.inr rfl)⟩
    simp -dsimp [small62]
    rw [show rngL 0 4 = (List.range 4).map fun (i : Nat) => D.int i from rngL_nat 4]
    refine wp_forI (fun j ρ M' => ∃ (q' : PoolS) (z6 z7 z8 : Option D), ρ = [some (.scr ns), some (.obj 0), some (.lst [.str "a", .str "b", .str "c"]), some (vsD zs va), some (vsD zs vb), some (vsD zs v), z6, z7, z8, none, none, none] ∧ M' = B.set 0 (poolL q') ∧ PoolOk q' (13 + 600 * i + 120 * j)) ?_ ?_ ⟨q7, _, _, _, rfl, rfl, ok7⟩
    · rintro ρ M' ⟨q8, z6, z7, z8, rfl, rfl, ok8⟩
      simp -dsimp
      exact ⟨q8, rfl, ok8.mono (by simp; omega)⟩
    · rintro j y ρ M' hy2 ⟨q8, z6, z7, z8, rfl, rfl, ok8⟩
      obtain ⟨hj, rfl⟩ := rng_get hy2
      have lf := law_formula_ok (ns := zs) hB zne (by omega) 3 4 q8 _ (by decide) ok8 (by omega)
      rw [zm] at lf
      simp -dsimp
      refine wp_mono (show wp (F__law_formula [.obj 0, .lst [.str "a", .str "b", .str "c"], .int (3 : Nat)]) _ _ from lf) ?_
      rintro r M' ⟨f, q9, rfl, fd, fn, rfl, ok9⟩
      have lt := law_theory_ok (ns := zs) (m := 2) (n := 1) hB zne (by omega) (by decide) (by decide) ok9 (by omega)
      rw [zm] at lt
      simp -dsimp
      refine wp_mono (show wp (F__law_theory [.obj 0, .lst [.str "a", .str "b", .str "c"], .int (2 : Nat), .int (1 : Nat)]) _ _ from lt) ?_
      rintro r M' ⟨th, q10, rfl, tl, tf, rfl, ok10⟩
      have p3 : 2 ^ dep f ≤ 2 ^ 3 := Nat.pow_le_pow_right (by decide) fd
      have d1 := fun M => degree_of_ok (f := f) (k := 64) zn (by omega) hv fn (by omega) (by decide) (by omega) M
      have d2 := fun M => law_degree_ok (f := f) zn (by omega) hv fn (by omega) M
      have d3 := fun M => is_full_ok (th := th) (k := 64) zn (by omega) hv (by decide) (by omega) (fun g hg => ⟨(tf g hg).2, by have := (tf g hg).1; omega, by
        have : 2 ^ dep g ≤ 2 ^ 1 := Nat.pow_le_pow_right (by decide) (tf g hg).1
        omega⟩) M
      have d4 := fun M => law_full_ok (th := th) zn (by omega) hv (by omega) (fun g hg => ⟨(tf g hg).2, by have := (tf g hg).1; omega⟩) M
      have sm := sameN (n := 4) (by decide) (.lst [dQ (val v f), .bl (fullB v th)]) (B.set 0 (poolL q10)) (by simp [okS, dQ])
      simp -dsimp [wp_of (d1 _), wp_of (d2 _), wp_of (d3 _), wp_of (d4 _), wp_of sm]
      exact ⟨q10, rfl, ok10.mono (by omega)⟩
  case refine_1 =>
  rintro ρ M' ⟨q7, z5, z6, z7, z8, rfl, rfl, ok7⟩
  have ok7 := ok7.mono (show _ ≤ 1213 from Nat.le_refl _)
  have eva : vsD zs va = .tup (zs.map fun z => .tup [.str z, .tup [.int (va z).num, .int (va z).den]]) := rfl
  have ft4 : fits (zs.length + (cut (zs.map fun z => D.tup [.str z, .tup [.int (va z).num, .int (va z).den]]) (some (-1)) none).length) = true := by
    have := cut_len (zs.map fun z => D.tup [.str z, .tup [.int (va z).num, .int (va z).den]]) (some (-1)) none
    rw [List.length_map] at this
    exact fits_of (by omega)
  simp -dsimp [eva, ft4]
  have rl : (zs.map fun z => D.tup [.str z, .tup [.int (va z).num, .int (va z).den]]).length = 3 := by rw [List.length_map, zl]
  have rv : ∀ y ∈ (zs.map fun z => D.tup [.str z, .tup [.int (va z).num, .int (va z).den]]), vB 3 y = true := fun y hy => by
    obtain ⟨z, hz, rfl⟩ := List.mem_map.mp hy
    exact vB_row (zc z hz).1
  have ro : ∀ y ∈ (zs.map fun z => D.tup [.str z, .tup [.int (va z).num, .int (va z).den]]), okB 5 y = true := fun y hy => by
    obtain ⟨z, hz, rfl⟩ := List.mem_map.mp hy
    exact okB_row ((hva z hz).1.mono (by decide))
  have rt := tots_vs (m := 6) (P := 64) (by decide) (zs := zs) (v := va) fun z hz => ⟨(zc z hz).2, (hva z hz).1⟩
  have rs : ((zs.map fun z => D.tup [.str z, .tup [.int (va z).num, .int (va z).den]]).map (szB 5)).sum = 5 * zs.length := szs_row (k := 3) (v := va) zs
  have bt := tots_vs (m := 20) (P := 1048576) (by decide) (zs := zs) (v := vb) fun z hz => ⟨(zc z hz).2, hvb z hz⟩
  have bv : vB 14 (vsD zs vb) = true := by
    show vB 14 (.tup _) = true
    rw [vB_tup, List.all_eq_true]
    intro y hy
    obtain ⟨z, hz, rfl⟩ := List.mem_map.mp hy
    exact vB_mono (vB_row (zc z hz).1) (by decide)
  have btt : tot (vsD zs vb) ≤ 8000000 := by
    show tot (.tup _) ≤ _
    have e : (zs.map fun z => D.tup [.str z, dQ (vb z)]) = (zs.map fun z => D.tup [.str z, .tup [.int (vb z).num, .int (vb z).den]]) := rfl
    rw [e]
    simp only [tot]
    rw [zl] at bt
    omega
  have fu1 := fun M => is_full_ok (th := []) (k := 64) zn (by omega) (h64 va (.inl rfl)) (by decide) (by simp) (fun g hg => nomatch hg) M
  have fu2 := fun M => is_full_ok (th := [.none]) (k := 64) zn (by omega) (h64 va (.inl rfl)) (by decide) (by simp) (fun g hg => by rw [List.mem_singleton.mp hg]; exact ⟨by simp [nms], by decide, by decide⟩) M
  have fu3 := fun M => is_full_ok (th := [.all, .two .thn (.name "a") (.name "a")]) (k := 64) zn (by omega) (h64 va (.inl rfl)) (by decide) (by simp) (fun g hg => by
    simp only [List.mem_cons, List.not_mem_nil, or_false] at hg
    rcases hg with rfl | rfl
    · exact ⟨by simp [nms], by decide, by decide⟩
    · exact ⟨by simpa [nms] using za, by decide, by decide⟩) M
  have fb1 : fullB va [] = true := rfl
  have fb2 : fullB va [.none] = false := by simp [fullB, val]
  have fb3 : fullB va [.all, .two .thn (.name "a") (.name "a")] = true := by
    have : minQ 1 ((1 - va "a") + va "a") = 1 := by
      have e : (1 - va "a") + va "a" = 1 := by grind
      rw [e]; unfold minQ; split <;> rfl
    simp [fullB, val, op2, this]
  rw [fb1] at fu1
  rw [fb2] at fu2
  rw [fb3] at fu3
  generalize (zs.map fun z => D.tup [.str z, .tup [.int (va z).num, .int (va z).den]]) = rows at *
  rw [zl] at rt rs
  refine wp_mono (show wp (F__law_bent [.obj 0, .tup rows, .int (10 : Nat)]) _ _ from bentD_ok (by match rows, rl with | a :: r, _ => exact ⟨a, r, rfl⟩) hB ok7 (by decide) (by
    show (decide (rows.length ≤ 1000) && rows.all (okB 5)) = true
    rw [decide_eq_true (by omega), Bool.true_and, List.all_eq_true]; exact ro) (by
    rw [vB_tup, List.all_eq_true]; exact fun y hy => vB_mono (rv y hy) (by decide)) (by
    show 1 + (rows.map (szB 5)).sum ≤ _
    omega) (by decide)) ?_
  rintro r M' ⟨q8, ys, rfl, hys, hyl, rfl, ok8⟩
  have f2 : fits (8 + ys.length) = true := fits_of (by omega)
  have z14 : ∀ y : D, (vB 14 y && decide (tot y ≤ 8000000)) = true → showB 14 8000000 y := fun y h => by
    have := Bool.and_eq_true_iff.mp h
    exact .inr ⟨this.1, of_decide_eq_true this.2⟩
  have all14 : ∀ l : List D, (∀ y ∈ l, y ∈ rows) → vB 14 (.tup l) = true := fun l hl => by
    rw [vB_tup, List.all_eq_true]
    exact fun y hy => vB_mono (rv y (hl y hy)) (by decide)
  have tc : tots (cut rows (some (-1)) none) ≤ tots rows := by
    unfold cut
    exact Nat.le_trans (tots_take _ _) (tots_drop _ _)
  have hysA : ∀ y ∈ ([.tup rows, vsD zs vb, .tup rows.reverse, .tup (rows ++ cut rows (some (-1)) none), .tup [.tup [.str "a", .tup [.int 3, .int 2]]], .tup [.tup [.str "a", .tup [.int 2, .int 4]]], .tup [.tup [.str "or", .tup [.int 1, .int 2]]], .tup []] ++ ys : List D), showB 14 8000000 y := fun y hy => by
    rcases List.mem_append.mp hy with hy | hy
    · simp only [List.mem_cons, List.not_mem_nil, or_false] at hy
      rcases hy with rfl | rfl | rfl | rfl | rfl | rfl | rfl | rfl
      · exact .inr ⟨all14 _ fun y hy => hy, by simp only [tot]; omega⟩
      · exact .inr ⟨bv, btt⟩
      · exact .inr ⟨all14 _ fun y hy => List.mem_reverse.mp hy, by simp only [tot, tots_rev]; omega⟩
      · exact .inr ⟨all14 _ fun y hy => (List.mem_append.mp hy).elim id cut_sub, by simp only [tot, tots_app]; omega⟩
      · exact z14 _ (by decide +kernel)
      · exact z14 _ (by decide +kernel)
      · exact z14 _ (by decide +kernel)
      · exact z14 _ (by decide +kernel)
    · exact (hys y hy).mono (Nat.le_refl _) (by simp only [tot]; omega)
  simp only [List.cons_append, List.nil_append] at hysA
  simp -dsimp [f2]
  refine wp_forI (fun i ρ M' => M' = B.set 0 (poolL q8) ∧ ∃ z9 z10, ρ = [some (.scr ns), some (.obj 0), some (.lst [.str "a", .str "b", .str "c"]), some (vsD zs va), some (vsD zs vb), z5, z6, z7, z8, z9, z10, none]) ?_ ?_ ⟨rfl, _, _, rfl⟩
  case refine_2 =>
    rintro i y ρ M' hy ⟨rfl, z9, z10, rfl⟩
    have hm := hysA y (List.mem_of_getElem? hy)
    obtain ⟨x, hrep⟩ := repr_val hm (by decide) (by decide)
    have hp := showB_plain hm
    have ht := showB_tot (by decide) hm
    have sm := sameN (n := 1) (by decide) (.bl (valB y)) (B.set 0 (poolL q8)) (by simp [okS])
    simp -dsimp [wp_of (hrep _), wp_of (is_valuation_ok hp ht _), wp_of (law_is_valuation_ok hp ht _), wp_of sm]
  case refine_1 =>
  rintro ρ M' ⟨rfl, z9, z10, rfl⟩
  have fu1' := fun M => show F_is_full [vsD zs va, .tup []] M = _ from fu1 M
  have fu2' := fun M => show F_is_full [vsD zs va, .tup [.tup [.str "none"]]] M = _ from fu2 M
  have fu3' := fun M => show F_is_full [vsD zs va, .tup [.tup [.str "all"], .tup [.str "then", .tup [.str "name", .str "a"], .tup [.str "name", .str "a"]]]] M = _ from fu3 M
  simp -dsimp [wp_of (fu1' _), wp_of (fu2' _), wp_of (fu3' _)]
end Law

end
namespace Law
section
open PySem PySem.Spec PyProof.Rows L2 DL
variable {P : Program} {w : World} {K : PySem.W.Frag} {mg : Str → Option Value} {base : Heap}
def cl0 (w : World) : Cl := ⟨fun _ => 0, w⟩
theorem sp_law {H : Hp} {a : Addr} {ns : List Int} (hl : ns.length ≤ 63) (hS : SqL K H a (ns.map V.int)) : spD K (cl0 w) 1 F_law [.ref a] H (fun v _ => v = .bl true) fun _ _ _ => False := by
  obtain ⟨M', e⟩ := law_true ns hl
  refine ⟨rfl, [.scr ns], [], ⟨[], H, fun _ => none⟩, ⟨_, _, rfl, ⟨a, rfl, hS⟩, rfl⟩, ?_, ?_⟩
  · exact ⟨fun _ _ z => z, rfl, fun n mo e => by simp at e, List.nodup_nil, fun _ _ z => nomatch z⟩
  · rw [e]
    intro W' H' v _ rv _
    exact rv
theorem txt_of {h : Heap} (X : K.In h) (G : h.Ns mainGlobals mg) (c : He.SaysX fa fn [] [] ex w h K) : Txt K mg where
  d := c.t.d
  g := fun x e => He.glo_ok X G e
  f := fun x e => He.free_ok X G e
  i := fun x i e => He.int_ok X G e
  s := fun x z e => He.str_ok X G e
  e := c.more
theorem law_facts {h : Heap} {f : Addr} (X : K.In h) (G : h.Ns mainGlobals mg) (hfa : mg ("law" : Str) = some (.ref f)) (c : He.SaysX fa fn [] [] ex w h K) :
    ∃ fd : FuncData, (∀ (s : Shared) (v : Value), BindsTo s fd ⟨[v], []⟩ [("script", v)]) ∧ ∀ base : Heap, K.In base → base.Ns mainGlobals mg → LawOk P w K mg base f fd ["script"] (spD K (cl0 w) 1 F_law) := by
  have T := txt_of X G c
  obtain ⟨fd, Fd⟩ := T.d.def_ 42 (d := d_law) rfl
  have b := FunD.bindsA (ps := ["script"]) Fd fun _ _ _ _ _ _ us hl => match us, hl with | [_], _ => rfl
  have e := hfa.symm.trans (T.g _ (T.d.fact 42 (f := .glo "law") rfl))
  cases e
  exact ⟨fd, fun s v => b s [v] rfl, fun base _ _ => GF_law (cl := cl0 w) rfl T Fd⟩
theorem law_walk {l : PySem.W.OpenLaw} {q : Program} {loose : List Str} {XP : (Str → Option Value) → Heap → Prop} {d : DefRec}
    (most : l.most = some 63) (dfl : d.params.defaults = []) (nm : d.name = ("law" : Str)) :
    PySem.W.WalkO q loose XP (hk).says l.row.toRowW d [] (fun f vs => PySem.call f vs) := by
  refine Att.attach_call most dfl ?_
  intro w _ s mg _ f _ _ _ _ a _ ns T0 Y _ _ _ hm ho hi hn hq
  obtain ⟨K, KX, c⟩ := Y
  rw [nm] at hm
  obtain ⟨fd, hb, hF⟩ := law_facts (P := l.prog) (w := w) KX T0.T.g hm c
  refine law_callG KX T0.T.g T0.T.b T0.T.builtins T0.T.nolimit hq ho hi (Nat.le_trans hn (by decide)) hF hb ?_ ?_
  · exact fun H hS => sp_law hn hS
  · intro H e s' z
    obtain ⟨_, _, _, _, _, _, _, _, _, _, _, _, z⟩ := z
    exact z
end
end Law
open PySem PySem.W PySem.Calls PyProof.Rows
theorem PySem.Challenge.cw_degreewise_k03_whole_degrees_holds : PySem.Challenge.rw_degreewise_k03_whole_degrees.Holds := by
  w_on; o_law
  refine HandSHeadRun.head_any (r := OpenLaw.row PySem.Challenge.rw_degreewise_k03_whole_degrees) (q := view (OpenLaw.row PySem.Challenge.rw_degreewise_k03_whole_degrees).prog [50]) (H := Law.hk) (ob := Law.ob) (M := 3000) (loose := Law.names) (d := HandSHeadRun.topDef (OpenLaw.row PySem.Challenge.rw_degreewise_k03_whole_degrees).prog 50) (kwd := []) Law.ob_eq
    (by kernel_rfl) (fun s => by kernel_rfl) Law.run (by kernel_rfl) (by kernel_rfl) (by kernel_rfl) (by rfl) (by first | assumption | decide +kernel) (by decide +kernel) ⟨rfl, rfl, rfl, rfl, rfl, by decide +kernel⟩ ?hw ?hc
  case hw => w_witness2
  case hc => exact Law.law_walk rfl (by kernel_rfl) (by kernel_rfl)

