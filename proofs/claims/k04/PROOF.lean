import PyProof.Rows.All
import Wide.All
import OpenK.AllK
import Wide.FinOn
import KE.KStateDown
import Lean
import HandS.Base
import HandS.Call
import HandS.Ends
import HandS.More
import HandS.Words
import HandS.WordsExc
import HandS.Defaults
import HandS.Head0
import HandS.Head1
import HandS.Head2
import HandS.HeadEnd
import HandS.HeadHook1
import HandS.HeadHook2
import HandS.HeadHook3
import HandS.HeadHook4
import HandS.ForMost
import HandS.ForExc
import HandS.TupAny
import HandS.TupMul
import HandS.Wide
import HandS.IsInst
import HandS.Deep
import HandS.Zip
import KE.GoesZip
import KE.GoesMore
import KE.KTurns
import PySem.Challenge.RW_degreewise_k04_lines_at_values
set_option Elab.async false
set_option linter.all false
set_option maxRecDepth 100000
set_option maxHeartbeats 0
/-! DL: a layer of plain values over HandS. D: values as trees; MO: objects that change; Mo: what a piece of program makes of them. -/
namespace DL
open PySem PySem.Spec PyProof.Rows L2

inductive D where
  | non | emp | scr (ns : List Int) | bl (b : Bool) | int (i : Int) | str (x : Str) | tup (xs : List D) | lst (xs : List D) | obj (n : Nat)
inductive MO where
  | lst (xs : List D) | dK (kvs : List (Key × D)) | dF (kvs : List (D × D)) | ins (c : Str) (fs : List (Str × D)) | gone
abbrev MS := List MO
structure Ex where
  cls : Str
  arg : Option D
abbrev Out (α : Type) := Option (Except Ex α × MS)
abbrev Mo (α : Type) := MS → Out α
namespace Mo
variable {α β : Type}
def ret (a : α) : Mo α := fun M => some (.ok a, M)
def bnd (m : Mo α) (f : α → Mo β) : Mo β := fun M => match m M with
  | none => none
  | some (.error e, M') => some (.error e, M')
  | some (.ok a, M') => f a M'
def stop : Mo α := fun _ => none
def opt (o : Option α) : Mo α := fun M => match o with
  | some a => some (.ok a, M)
  | none => none
theorem ret_bnd (a : α) (f : α → Mo β) : bnd (ret a) f = f a := rfl
theorem opt_some (a : α) : opt (some a) = ret a := rfl
theorem opt_none : (opt none : Mo α) = stop := rfl
theorem stop_bnd (f : α → Mo β) : bnd stop f = stop := rfl
theorem bnd_assoc {γ : Type} (m : Mo α) (f : α → Mo β) (g : β → Mo γ) : bnd (bnd m f) g = bnd m fun a => bnd (f a) g := by
  funext M
  unfold bnd
  cases m M with
  | none => rfl
  | some r =>
    obtain ⟨r, M'⟩ := r
    cases r <;> rfl
theorem bnd_ok {m : Mo α} {f : α → Mo β} {M M' : MS} {b : β} (h : bnd m f M = some (.ok b, M')) : ∃ a M1, m M = some (.ok a, M1) ∧ f a M1 = some (.ok b, M') := by
  unfold bnd at h
  cases e : m M with
  | none => rw [e] at h; cases h
  | some r =>
    rw [e] at h
    obtain ⟨r, M1⟩ := r
    cases r with
    | error x => cases h
    | ok a => exact ⟨a, M1, rfl, h⟩
theorem bnd_of {m : Mo α} {f : α → Mo β} {M M1 : MS} {a : α} (h : m M = some (.ok a, M1)) : bnd m f M = f a M1 := by
  unfold bnd
  rw [h]
end Mo
abbrev Rho := List (Option D)

/-! ### the world: where the objects that change stand; what is frozen; what else stands still -/
structure Wd where
  ι : List Addr
  G : Hp
  F : Hp
structure Wd.le (W W' : Wd) : Prop where
  i : ∀ (n : Nat) a, W.ι[n]? = some a → W'.ι[n]? = some a
  g : ∀ a o, W.G a = some o → W'.G a = some o
  f : ∀ a o, W.F a = some o → W'.F a = some o
/-- what values lean on -/
structure Wd.vle (W W' : Wd) : Prop where
  i : ∀ (n : Nat) a, W.ι[n]? = some a → W'.ι[n]? = some a
  g : ∀ a o, W.G a = some o → W'.G a = some o
theorem Wd.le.v {W W' : Wd} (l : W.le W') : W.vle W' := ⟨l.i, l.g⟩
theorem Wd.le.refl (W : Wd) : W.le W := ⟨fun _ _ h => h, fun _ _ h => h, fun _ _ h => h⟩
theorem Wd.le.trans {A B C : Wd} (a : A.le B) (b : B.le C) : A.le C := ⟨fun n x h => b.i n x (a.i n x h), fun x o h => b.g x o (a.g x o h), fun x o h => b.f x o (a.f x o h)⟩

section
variable (K : PySem.W.Frag)
mutual
def Rep (W : Wd) : D → V → Prop
  | .non, v => v = .non
  | .bl b, v => v = .bl b
  | .int i, v => v = .int i
  | .str x, v => v = .str x
  | .emp, v => ∃ a, v = .ref a ∧ W.G a = some (.dK [])
  | .tup ds, v => ∃ a vs, v = .ref a ∧ SqT K W.G a vs ∧ Reps W ds vs
  | .lst ds, v => ∃ a vs, v = .ref a ∧ Rd W.G a (.lst vs) ∧ Reps W ds vs
  | .scr ns, v => ∃ a, v = .ref a ∧ SqL K W.G a (ns.map V.int)
  | .obj n, v => ∃ a, v = .ref a ∧ W.ι[n]? = some a
def Reps (W : Wd) : List D → List V → Prop
  | [], vs => vs = []
  | d :: ds, vs => ∃ v r, vs = v :: r ∧ Rep W d v ∧ Reps W ds r
end
end
section
variable {K : PySem.W.Frag} {W W' : Wd}
theorem rd_mono {H H' : Hp} {a : Addr} {u : HO} (h : ∀ a o, H a = some o → H' a = some o) (s : Rd H a u) : Rd H' a u := by
  rcases s with s | ⟨o, s⟩
  · exact .inl (h _ _ s)
  · exact .inr ⟨o, h _ _ s⟩
theorem sqL_mono {H H' : Hp} {a : Addr} {vs : List V} (h : ∀ a o, H a = some o → H' a = some o) (s : SqL K H a vs) : SqL K H' a vs := by
  rcases s with (s | ⟨o, s⟩) | s
  · exact .inl (.inl (h _ _ s))
  · exact .inl (.inr ⟨o, h _ _ s⟩)
  · exact .inr s
theorem sqT_mono {H H' : Hp} {a : Addr} {vs : List V} (h : ∀ a o, H a = some o → H' a = some o) (s : SqT K H a vs) : SqT K H' a vs := by
  rcases s with (s | ⟨o, s⟩) | s
  · exact .inl (.inl (h _ _ s))
  · exact .inl (.inr ⟨o, h _ _ s⟩)
  · exact .inr s
mutual
theorem Rep.mono (l : W.vle W') : ∀ (d : D) (v : V), Rep K W d v → Rep K W' d v
  | .non, _, h => h
  | .bl _, _, h => h
  | .int _, _, h => h
  | .str _, _, h => h
  | .emp, _, ⟨a, e, h⟩ => ⟨a, e, l.g _ _ h⟩
  | .tup ds, _, ⟨a, vs, e, s, r⟩ => ⟨a, vs, e, sqT_mono l.g s, Reps.mono l ds vs r⟩
  | .lst ds, _, ⟨a, vs, e, s, r⟩ => ⟨a, vs, e, rd_mono l.g s, Reps.mono l ds vs r⟩
  | .scr ns, _, ⟨a, e, s⟩ => ⟨a, e, sqL_mono l.g s⟩
  | .obj _, _, ⟨a, e, h⟩ => ⟨a, e, l.i _ _ h⟩
theorem Reps.mono (l : W.vle W') : ∀ (ds : List D) (vs : List V), Reps K W ds vs → Reps K W' ds vs
  | [], _, h => h
  | d :: ds, _, ⟨v, r, e, h1, h2⟩ => ⟨v, r, e, Rep.mono l d v h1, Reps.mono l ds r h2⟩
end
theorem Rep.up {d : D} {v : V} (h : Rep K W d v) (l : W.le W') : Rep K W' d v := Rep.mono l.v d v h
theorem Reps.up {d : List D} {v : List V} (h : Reps K W d v) (l : W.le W') : Reps K W' d v := Reps.mono l.v d v h
theorem Rep.upv {d : D} {v : V} (h : Rep K W d v) (l : W.vle W') : Rep K W' d v := Rep.mono l d v h
theorem Reps.upv {d : List D} {v : List V} (h : Reps K W d v) (l : W.vle W') : Reps K W' d v := Reps.mono l d v h
theorem Reps.length : ∀ {ds : List D} {vs : List V}, Reps K W ds vs → vs.length = ds.length
  | [], _, h => by rw [show _ = [] from h]; rfl
  | _ :: _, _, ⟨_, _, e, _, h⟩ => by rw [e, List.length_cons, List.length_cons, Reps.length h]
theorem Reps.get : ∀ {ds : List D} {vs : List V} {i : Nat} {d : D}, Reps K W ds vs → ds[i]? = some d → ∃ v, vs[i]? = some v ∧ Rep K W d v
  | [], _, _, _, _, h => by simp at h
  | _ :: _, _, 0, _, ⟨v, r, e, h1, _⟩, h => by simp at h; subst h; subst e; exact ⟨v, rfl, h1⟩
  | _ :: _, _, i + 1, _, ⟨v, r, e, _, h2⟩, h => by
    subst e
    obtain ⟨v', a, b⟩ := Reps.get (i := i) h2 (by simpa using h)
    exact ⟨v', by simpa using a, b⟩
theorem Reps.getV : ∀ {ds : List D} {vs : List V} {i : Nat} {v : V}, Reps K W ds vs → vs[i]? = some v → ∃ d, ds[i]? = some d ∧ Rep K W d v
  | [], _, _, _, h, h' => by rw [show _ = [] from h] at h'; simp at h'
  | _ :: _, _, 0, _, ⟨v, r, e, h1, _⟩, h => by subst e; simp at h; subst h; exact ⟨_, rfl, h1⟩
  | _ :: _, _, i + 1, _, ⟨v, r, e, _, h2⟩, h => by
    subst e
    obtain ⟨v', a, b⟩ := Reps.getV (i := i) h2 (by simpa using h)
    exact ⟨v', by simpa using a, b⟩
theorem Reps.append : ∀ {ds es : List D} {vs us : List V}, Reps K W ds vs → Reps K W es us → Reps K W (ds ++ es) (vs ++ us)
  | [], _, _, _, h, h' => by rw [show _ = [] from h]; exact h'
  | _ :: _, _, _, _, ⟨v, r, e, h1, h2⟩, h' => by subst e; exact ⟨v, r ++ _, rfl, h1, Reps.append h2 h'⟩
theorem Reps.take : ∀ {ds : List D} {vs : List V} (n : Nat), Reps K W ds vs → Reps K W (ds.take n) (vs.take n)
  | _, _, 0, _ => by simp [Reps]
  | [], _, _ + 1, h => by rw [show _ = [] from h]; simp [Reps]
  | _ :: _, _, n + 1, ⟨v, r, e, h1, h2⟩ => by subst e; exact ⟨v, r.take n, rfl, h1, Reps.take n h2⟩
theorem Reps.drop : ∀ {ds : List D} {vs : List V} (n : Nat), Reps K W ds vs → Reps K W (ds.drop n) (vs.drop n)
  | _, _, 0, h => h
  | [], _, _ + 1, h => by rw [show _ = [] from h]; simp [Reps]
  | _ :: _, _, n + 1, ⟨v, r, e, h1, h2⟩ => by subst e; exact Reps.drop n h2
theorem Reps.set : ∀ {ds : List D} {vs : List V} {d : D} {v : V} (i : Nat), Reps K W ds vs → Rep K W d v → Reps K W (ds.set i d) (vs.set i v)
  | [], _, _, _, _, h, _ => by rw [show _ = [] from h]; simp [Reps]
  | _ :: _, _, _, _, 0, ⟨v, r, e, h1, h2⟩, h => by subst e; exact ⟨_, r, rfl, h, h2⟩
  | _ :: _, _, _, _, i + 1, ⟨v, r, e, h1, h2⟩, h => by subst e; exact ⟨v, r.set i _, rfl, h1, Reps.set i h2 h⟩
theorem Reps.reverse {ds : List D} {vs : List V} (h : Reps K W ds vs) : Reps K W ds.reverse vs.reverse := by
  induction ds generalizing vs with
  | nil => rw [show vs = [] from h]; simp [Reps]
  | cons d ds ih =>
    obtain ⟨v, r, rfl, h1, h2⟩ := h
    rw [List.reverse_cons, List.reverse_cons]
    exact (ih h2).append ⟨v, [], rfl, h1, rfl⟩
theorem Reps.one {d : D} {v : V} (h : Rep K W d v) : Reps K W [d] [v] := ⟨v, [], rfl, h, rfl⟩
theorem Reps.nil_iff {ds : List D} {vs : List V} (h : Reps K W ds vs) : vs = [] ↔ ds = [] := by
  have e := h.length
  cases ds <;> cases vs <;> simp_all
theorem Reps.replicate {d : D} {v : V} (h : Rep K W d v) : ∀ n, Reps K W (List.replicate n d) (List.replicate n v)
  | 0 => rfl
  | n + 1 => ⟨v, _, rfl, h, Reps.replicate h n⟩
theorem Reps.rep_flat {ds : List D} {vs : List V} (h : Reps K W ds vs) : ∀ n, Reps K W (List.replicate n ds).flatten (List.replicate n vs).flatten
  | 0 => rfl
  | n + 1 => by rw [List.replicate_succ, List.flatten_cons, List.replicate_succ, List.flatten_cons]; exact h.append (Reps.rep_flat h n)
theorem Reps.map {α : Type} {f : α → D} {g : α → V} : ∀ {xs : List α}, (∀ x ∈ xs, Rep K W (f x) (g x)) → Reps K W (xs.map f) (xs.map g)
  | [], _ => rfl
  | x :: xs, h => ⟨g x, xs.map g, rfl, h x List.mem_cons_self, Reps.map fun y hy => h y (List.mem_cons_of_mem _ hy)⟩
theorem Reps.ints : ∀ {ns : List Int} {vs : List V}, Reps K W (ns.map D.int) vs → vs = ns.map V.int
  | [], _, h => h
  | _ :: _, _, ⟨v, r, e, h1, h2⟩ => by rw [e, show v = _ from h1, Reps.ints h2]; rfl
theorem Reps.strs : ∀ {ns : List Str} {vs : List V}, Reps K W (ns.map D.str) vs → vs = ns.map V.str
  | [], _, h => h
  | _ :: _, _, ⟨v, r, e, h1, h2⟩ => by rw [e, show v = _ from h1, Reps.strs h2]; rfl
theorem Reps.bls : ∀ {ns : List Bool} {vs : List V}, Reps K W (ns.map D.bl) vs → vs = ns.map V.bl
  | [], _, h => h
  | _ :: _, _, ⟨v, r, e, h1, h2⟩ => by rw [e, show v = _ from h1, Reps.bls h2]; rfl
end

/-! ### objects that change -/
section
variable (K : PySem.W.Frag) (cl : Str → Addr)
def RepF (W : Wd) : List (Str × D) → List (Str × V) → Prop := Paired fun p q => p.1 = q.1 ∧ Rep K W p.2 q.2
def RepK (W : Wd) : List (Key × D) → List (Key × V) → Prop := Paired fun p q => p.1 = q.1 ∧ Rep K W p.2 q.2
/-- a dict whose keys are trees: its entries (hash, key, value) stand as told -/
def DfObj (a : Addr) (es : Array DictEntry) : Heap → Prop := fun h => ∃ o ep, h.get? a = some o ∧ o.ExactDict ∧ o.data = .dict es ep
def RepMO (W : Wd) (mo : MO) (a : Addr) (ho : Option HO) : Prop := match mo with
  | .lst ds => ∃ vs, ho = some (.lst vs) ∧ Reps K W ds vs
  | .ins c fs => ∃ dx vs, ho = some (.ins (cl c) dx vs) ∧ RepF K W fs vs
  | .dK kvs => ∃ vs, ho = some (.dK vs) ∧ RepK K W kvs vs
  | .dF kvs => ∃ es : Array DictEntry, ho = some (.ext (DfObj a es)) ∧ Paired (fun (p : D × D) (e : DictEntry) => ∃ v u, Rep K W p.1 v ∧ RelV v e.key ∧ Rep K W p.2 u ∧ RelV u e.val) kvs es.toList ∧ True
  | .gone => ∃ o, W.G a = some o
structure HRel (W : Wd) (M : MS) (H : Hp) : Prop where
  gle : ∀ a o, W.G a = some o → H a = some o
  len : W.ι.length = M.length
  obj : ∀ (n : Nat) (mo : MO), M[n]? = some mo → ∃ a, W.ι[n]? = some a ∧ (mo ≠ .gone → W.G a = none) ∧ W.F a = none ∧ RepMO K cl W mo a (H a)
  nd : W.ι.Nodup
  fle : ∀ a o, W.F a = some o → H a = some o ∧ W.G a = none
end
section
variable {K : PySem.W.Frag} {cl : Str → Addr} {W W' : Wd} {M : MS} {H : Hp}
theorem Paired.imp {α β : Type} {R S : α → β → Prop} (f : ∀ a b, R a b → S a b) : ∀ {l : List α} {m : List β}, Paired R l m → Paired S l m
  | _, _, .nil => .nil
  | _, _, .cons r t => .cons (f _ _ r) (Paired.imp f t)
theorem RepMO.upv (l : W.vle W') {mo : MO} {a : Addr} {ho : Option HO} (h : RepMO K cl W mo a ho) : RepMO K cl W' mo a ho := by
  cases mo with
  | lst ds => obtain ⟨vs, e, r⟩ := h; exact ⟨vs, e, r.upv l⟩
  | ins c fs => obtain ⟨dx, vs, e, r⟩ := h; exact ⟨dx, vs, e, Paired.imp (fun _ _ q => ⟨q.1, q.2.upv l⟩) r⟩
  | dK kvs => obtain ⟨vs, e, r⟩ := h; exact ⟨vs, e, Paired.imp (fun _ _ q => ⟨q.1, q.2.upv l⟩) r⟩
  | dF kvs =>
    obtain ⟨es, e, r, x⟩ := h
    exact ⟨es, e, Paired.imp (fun _ _ ⟨v, u, a, b, c, d⟩ => ⟨v, u, a.upv l, b, c.upv l, d⟩) r, x⟩
  | gone => obtain ⟨o, e⟩ := h; exact ⟨o, l.g _ _ e⟩
theorem RepMO.up (l : W.le W') {mo : MO} {a : Addr} {ho : Option HO} (h : RepMO K cl W mo a ho) : RepMO K cl W' mo a ho := h.upv l.v
theorem RepMO.some {mo : MO} {a : Addr} {ho : Option HO} (hg : ∀ o, W.G a = .some o → ho = .some o) (h : RepMO K cl W mo a ho) : ∃ o, ho = .some o := by
  cases mo with
  | lst ds => obtain ⟨vs, e, r⟩ := h; exact ⟨_, e⟩
  | ins c fs => obtain ⟨dx, vs, e, r⟩ := h; exact ⟨_, e⟩
  | dK kvs => obtain ⟨vs, e, r⟩ := h; exact ⟨_, e⟩
  | dF kvs => obtain ⟨es, e, r⟩ := h; exact ⟨_, e⟩
  | gone => obtain ⟨o, e⟩ := h; exact ⟨o, hg _ e⟩
theorem HRel.gnone (h : HRel K cl W M H) {p : Addr} (hp : H p = none) : W.G p = none := by
  cases e : W.G p with
  | none => rfl
  | some o => rw [h.gle _ _ e] at hp; cases hp
theorem HRel.ιsome (h : HRel K cl W M H) {n : Nat} {a : Addr} (e : W.ι[n]? = some a) : ∃ mo o, M[n]? = some mo ∧ H a = some o := by
  have hn : n < M.length := by rw [← h.len]; exact (List.getElem?_eq_some_iff.mp e).1
  obtain ⟨b, eb, _, _, r⟩ := h.obj n M[n] (by simp [hn])
  rw [e] at eb
  have hb := Option.some.inj eb
  subst hb
  obtain ⟨o, ho⟩ := r.some (h.gle a)
  exact ⟨M[n], o, by simp [hn], ho⟩
theorem HRel.fnone (h : HRel K cl W M H) {p : Addr} (hp : H p = none) : W.F p = none := by
  cases e : W.F p with
  | none => rfl
  | some o => rw [(h.fle _ _ e).1] at hp; cases hp
/-- a new thing is frozen -/
theorem HRel.frz {p : Addr} {o : HO} (h : HRel K cl W M H) (hp : H p = none) : W.le ⟨W.ι, upd W.G p o, W.F⟩ ∧ HRel K cl ⟨W.ι, upd W.G p o, W.F⟩ M (upd H p o) := by
  have hg := h.gnone hp
  have l : W.le ⟨W.ι, upd W.G p o, W.F⟩ := ⟨fun _ _ e => e, fun a u e => by
    show upd W.G p o a = some u
    rw [upd_ne (ne_of_none e hg)]; exact e, fun _ _ e => e⟩
  refine ⟨l, ⟨fun a u e => ?_, h.len, fun n mo e => ?_, h.nd, fun a u e => ?_⟩⟩
  · by_cases q : a = p
    · subst q
      have e' : upd W.G a o a = some u := e
      rw [upd_same] at e' ⊢; exact e'
    · have e' : upd W.G p o a = some u := e
      rw [upd_ne q] at e' ⊢
      exact h.gle _ _ e'
  · obtain ⟨a, e1, e2, e3, r⟩ := h.obj n mo e
    obtain ⟨mo', o', _, e4⟩ := h.ιsome e1
    have ne : a ≠ p := ne_of_none e4 hp
    refine ⟨a, e1, fun z => ?_, e3, ?_⟩
    · show upd W.G p o a = none
      rw [upd_ne ne]; exact e2 z
    · rw [upd_ne ne]
      exact r.up l
  · have q := h.fle a u e
    have ne : a ≠ p := ne_of_none q.1 hp
    refine ⟨by rw [upd_ne ne]; exact q.1, ?_⟩
    show upd W.G p o a = none
    rw [upd_ne ne]; exact q.2
/-- something new stands still, out of sight -/
theorem HRel.hold {p : Addr} {o : HO} (h : HRel K cl W M H) (hp : H p = none) : W.le ⟨W.ι, W.G, upd W.F p o⟩ ∧ HRel K cl ⟨W.ι, W.G, upd W.F p o⟩ M (upd H p o) := by
  have hf := h.fnone hp
  have l : W.le ⟨W.ι, W.G, upd W.F p o⟩ := ⟨fun _ _ e => e, fun _ _ e => e, fun a u e => by
    show upd W.F p o a = some u
    rw [upd_ne (ne_of_none e hf)]; exact e⟩
  refine ⟨l, ⟨fun a u e => ?_, h.len, fun n mo e => ?_, h.nd, fun a u e => ?_⟩⟩
  · have q := h.gle a u e
    rw [upd_ne (ne_of_none q hp)]; exact q
  · obtain ⟨a, e1, e2, e3, r⟩ := h.obj n mo e
    obtain ⟨mo', o', _, e4⟩ := h.ιsome e1
    have ne : a ≠ p := ne_of_none e4 hp
    refine ⟨a, e1, e2, ?_, ?_⟩
    · show upd W.F p o a = none
      rw [upd_ne ne]; exact e3
    · rw [upd_ne ne]
      exact r.up l
  · by_cases q : a = p
    · subst q
      have e' : upd W.F a o a = some u := e
      rw [upd_same] at e' ⊢
      exact ⟨e', h.gnone hp⟩
    · have e' : upd W.F p o a = some u := e
      rw [upd_ne q] at e' ⊢
      exact h.fle a u e'
/-- what stood still out of sight is changed -/
theorem HRel.held {p : Addr} {o u : HO} (h : HRel K cl W M H) (hp : W.F p = some u) : HRel K cl ⟨W.ι, W.G, upd W.F p o⟩ M (upd H p o) := by
  obtain ⟨hH, hG⟩ := h.fle _ _ hp
  refine ⟨fun a u e => ?_, h.len, fun n mo e => ?_, h.nd, fun a u e => ?_⟩
  · rw [upd_ne (ne_of_none e hG)]; exact h.gle a u e
  · obtain ⟨a, e1, e2, e3, r⟩ := h.obj n mo e
    have ne : a ≠ p := fun z => by subst z; rw [e3] at hp; cases hp
    refine ⟨a, e1, e2, ?_, ?_⟩
    · show upd W.F p o a = none
      rw [upd_ne ne]; exact e3
    · rw [upd_ne ne]
      exact RepMO.upv (W := W) (W' := ⟨W.ι, W.G, upd W.F p o⟩) ⟨fun _ _ e => e, fun _ _ e => e⟩ r
  · by_cases q : a = p
    · subst q
      have e' : upd W.F a o a = some u := e
      rw [upd_same] at e' ⊢
      exact ⟨e', hG⟩
    · have e' : upd W.F p o a = some u := e
      rw [upd_ne q] at e' ⊢
      exact h.fle a u e'
/-- a new object that may change -/
theorem HRel.new {p : Addr} {o : HO} {mo : MO} (h : HRel K cl W M H) (hp : H p = none) (hm : mo ≠ .gone) (r : RepMO K cl ⟨W.ι ++ [p], W.G, W.F⟩ mo p (some o)) :
    W.le ⟨W.ι ++ [p], W.G, W.F⟩ ∧ HRel K cl ⟨W.ι ++ [p], W.G, W.F⟩ (M ++ [mo]) (upd H p o) ∧ (W.ι ++ [p])[M.length]? = some p := by
  have l : W.le ⟨W.ι ++ [p], W.G, W.F⟩ := ⟨fun n a e => by
    show (W.ι ++ [p])[n]? = some a
    rw [List.getElem?_append_left (List.getElem?_eq_some_iff.mp e).1]; exact e, fun _ _ e => e, fun _ _ e => e⟩
  have hlast : (W.ι ++ [p])[M.length]? = some p := by rw [← h.len]; simp
  refine ⟨l, ⟨fun a u e => ?_, ?_, fun n mo' e => ?_, ?_, fun a u e => ?_⟩, hlast⟩
  · rw [upd_ne (ne_of_none (h.gle _ _ e) hp)]
    exact h.gle _ _ e
  · show (W.ι ++ [p]).length = (M ++ [mo]).length
    simp [h.len]
  · by_cases hn : n < M.length
    · rw [List.getElem?_append_left hn] at e
      obtain ⟨a, e1, e2, e3, r'⟩ := h.obj n mo' e
      obtain ⟨_, o', _, e4⟩ := h.ιsome e1
      refine ⟨a, l.i _ _ e1, e2, e3, ?_⟩
      rw [upd_ne (ne_of_none e4 hp)]
      exact r'.up l
    · have hn' : n = M.length := by
        have := (List.getElem?_eq_some_iff.mp e).1
        simp at this
        omega
      subst hn'
      have e' : mo' = mo := by simpa using e.symm
      subst e'
      refine ⟨p, hlast, fun _ => h.gnone hp, h.fnone hp, ?_⟩
      rw [upd_same]; exact r
  · show (W.ι ++ [p]).Nodup
    rw [List.nodup_append]
    refine ⟨h.nd, by simp, fun a ha b hb => ?_⟩
    have : b = p := by simpa using hb
    subst this
    obtain ⟨n, hn, e⟩ := List.mem_iff_getElem.mp ha
    obtain ⟨_, o', _, e4⟩ := h.ιsome (n := n) (a := a) (by simp [hn, e])
    exact ne_of_none e4 hp
  · have q := h.fle a u e
    rw [upd_ne (ne_of_none q.1 hp)]; exact q
/-- an object changes -/
theorem HRel.set {n : Nat} {a : Addr} {o : HO} {mo mo' : MO} (h : HRel K cl W M H) (e : M[n]? = some mo) (hm : mo ≠ .gone) (hm' : mo' ≠ .gone) (ea : W.ι[n]? = some a) (r : RepMO K cl W mo' a (some o)) :
    HRel K cl W (M.set n mo') (upd H a o) := by
  obtain ⟨b, eb, gb, fb, _⟩ := h.obj n mo e
  rw [ea] at eb
  have hb := Option.some.inj eb
  subst hb
  have ga := gb hm
  refine ⟨fun x u ex => ?_, by simp [h.len], fun k mk ek => ?_, h.nd, fun x u ex => ?_⟩
  · rw [upd_ne (ne_of_none ex ga)]
    exact h.gle _ _ ex
  · by_cases hk : k = n
    · subst hk
      have hlt : k < M.length := (List.getElem?_eq_some_iff.mp e).1
      rw [List.getElem?_set_self hlt] at ek
      have := Option.some.inj ek
      subst this
      exact ⟨a, ea, fun _ => ga, fb, by rw [upd_same]; exact r⟩
    · rw [List.getElem?_set_ne (Ne.symm hk)] at ek
      obtain ⟨c, ec, gc, fc, rc⟩ := h.obj k mk ek
      have hne : c ≠ a := by
        intro z
        subst z
        obtain ⟨h1, q1⟩ := List.getElem?_eq_some_iff.mp ec
        obtain ⟨h2, q2⟩ := List.getElem?_eq_some_iff.mp ea
        exact hk ((List.getElem_inj h.nd).mp (q1.trans q2.symm))
      exact ⟨c, ec, gc, fc, by rw [upd_ne hne]; exact rc⟩
  · rw [upd_ne (ne_of_none ex fb)]
    exact h.fle _ _ ex
end

/-! ### what is wanted behind a piece -/
/-- an exception's own dict holds its argument -/
def ExR (K : PySem.W.Frag) (W : Wd) (x : Ex) (dx : Option Addr) (H : Hp) : Prop := match x.arg with
  | none => dx = none
  | some d => ∃ a v, dx = some a ∧ H a = some (.xd [("line", v)]) ∧ Rep K W d v
section
variable (K : PySem.W.Frag) (cl : Str → Addr) (E : XK)
def Post {α β : Type} (R : Wd → α → β → Prop) (W : Wd) (r : Out α) (Q : β → Hp → Prop) : Prop := match r with
  | none => False
  | some (.ok d, M') => ∀ W' H' v, W.le W' → R W' d v → HRel K cl W' M' H' → Q v H'
  | some (.error x, M') => ∀ W' H' dx, W.le W' → HRel K cl W' M' H' → ExR K W' x dx H' → E (.ref (cl x.cls)) dx H'
def RhoR (W : Wd) (σ : L2.St) (ρ : Rho) : Prop := σ.length = ρ.length ∧ ∀ (i : Nat) d, ρ[i]? = some (some d) → ∃ v, σ[i]? = some (some v) ∧ Rep K W d v
/-- the reading of an expression by what it makes of plain values -/
def tD (m : Rho → Mo D) : TE := fun σ H Q => ∃ ρ M W, RhoR K W σ ρ ∧ HRel K cl W M H ∧ Post K cl E (Rep K) W (m ρ M) Q
def tT (m : Rho → Mo Bool) : TT := fun σ H Q => ∃ ρ M W, RhoR K W σ ρ ∧ HRel K cl W M H ∧ Post K cl E (fun _ (a b : Bool) => a = b) W (m ρ M) Q
def tA (m : Rho → Mo (List D)) : TA := fun σ H Q => ∃ ρ M W, RhoR K W σ ρ ∧ HRel K cl W M H ∧ Post K cl E (Reps K) W (m ρ M) Q
end
inductive Fl where
  | nx (ρ : Rho) | rt (d : D) | bk (ρ : Rho) | ct (ρ : Rho)
section
variable (K : PySem.W.Frag) (cl : Str → Addr) (E : XK)
def FlR (Dn : Ends) (W : Wd) (H : Hp) : Fl → Prop
  | .nx ρ => ∀ σ, RhoR K W σ ρ → Dn.nx σ H
  | .rt d => ∀ v, Rep K W d v → Dn.rt v H
  | .bk ρ => ∀ σ, RhoR K W σ ρ → Dn.bk σ H
  | .ct ρ => ∀ σ, RhoR K W σ ρ → Dn.ct σ H
def PostS (W : Wd) (r : Out Fl) (Dn : Ends) : Prop := match r with
  | none => False
  | some (.ok f, M') => ∀ W' H', W.le W' → HRel K cl W' M' H' → FlR K Dn W' H' f
  | some (.error x, M') => ∀ W' H' dx, W.le W' → HRel K cl W' M' H' → ExR K W' x dx H' → E (.ref (cl x.cls)) dx H'
def tS (m : Rho → Mo Fl) : TS := fun Dn σ H => ∃ ρ M W, RhoR K W σ ρ ∧ HRel K cl W M H ∧ PostS K cl E W (m ρ M) Dn
end
section
variable {K : PySem.W.Frag} {cl : Str → Addr} {E : XK}
theorem RhoR.up {W W' : Wd} {σ : L2.St} {ρ : Rho} (h : RhoR K W σ ρ) (l : W.le W') : RhoR K W' σ ρ := ⟨h.1, fun i d e => let ⟨v, a, b⟩ := h.2 i d e; ⟨v, a, b.up l⟩⟩
theorem RhoR.set {W : Wd} {σ : L2.St} {ρ : Rho} {d : D} {v : V} (h : RhoR K W σ ρ) (r : Rep K W d v) (i : Nat) : RhoR K W (σ.set i (some v)) (ρ.set i (some d)) := by
  refine ⟨by simp [h.1], fun j e q => ?_⟩
  by_cases hj : j = i
  · subst hj
    have hlt : j < ρ.length := by
      have := (List.getElem?_eq_some_iff.mp q).1
      simpa using this
    rw [List.getElem?_set_self hlt] at q
    have := Option.some.inj (Option.some.inj q)
    subst this
    exact ⟨v, by rw [List.getElem?_set_self (by rw [h.1]; exact hlt)], r⟩
  · rw [List.getElem?_set_ne (Ne.symm hj)] at q ⊢
    exact h.2 j e q
theorem Post.up {α β : Type} {R : Wd → α → β → Prop} {W W' : Wd} {r : Out α} {Q : β → Hp → Prop} (h : Post K cl E R W r Q) (l : W.le W') : Post K cl E R W' r Q := by
  cases r with
  | none => exact h
  | some r =>
    obtain ⟨r, M'⟩ := r
    cases r with
    | ok d => exact fun W2 H2 v l2 => h W2 H2 v (l.trans l2)
    | error x => exact fun W2 H2 dx l2 => h W2 H2 dx (l.trans l2)
theorem PostS.up {W W' : Wd} {r : Out Fl} {Dn : Ends} (h : PostS K cl E W r Dn) (l : W.le W') : PostS K cl E W' r Dn := by
  cases r with
  | none => exact h
  | some r =>
    obtain ⟨r, M'⟩ := r
    cases r with
    | ok d => exact fun W2 H2 l2 => h W2 H2 (l.trans l2)
    | error x => exact fun W2 H2 dx l2 => h W2 H2 dx (l.trans l2)
/-- a piece, and what follows it -/
theorem Post.seq {α β γ δ : Type} {R : Wd → α → β → Prop} {S : Wd → γ → δ → Prop} {W : Wd} {M : MS} {m : Mo α} {f : α → Mo γ} {Q : δ → Hp → Prop} {Q' : β → Hp → Prop} (h : Post K cl E S W (Mo.bnd m f M) Q)
    (k : ∀ a M' W' H' v, W.le W' → R W' a v → HRel K cl W' M' H' → Post K cl E S W' (f a M') Q → Q' v H') : Post K cl E R W (m M) Q' := by
  unfold Mo.bnd at h
  cases e : m M with
  | none => rw [e] at h; exact h
  | some r =>
    rw [e] at h
    obtain ⟨r, M'⟩ := r
    cases r with
    | ok a => exact fun W' H' v l r hr => k a M' W' H' v l r hr (h.up l)
    | error x => exact h
theorem PostS.seq {α β : Type} {R : Wd → α → β → Prop} {W : Wd} {M : MS} {m : Mo α} {f : α → Mo Fl} {Dn : Ends} {Q' : β → Hp → Prop} (h : PostS K cl E W (Mo.bnd m f M) Dn)
    (k : ∀ a M' W' H' v, W.le W' → R W' a v → HRel K cl W' M' H' → PostS K cl E W' (f a M') Dn → Q' v H') : Post K cl E R W (m M) Q' := by
  unfold Mo.bnd at h
  cases e : m M with
  | none => rw [e] at h; exact h
  | some r =>
    rw [e] at h
    obtain ⟨r, M'⟩ := r
    cases r with
    | ok a => exact fun W' H' v l r hr => k a M' W' H' v l r hr (h.up l)
    | error x => exact h
end
/-! ### weaker readings -/
section
variable {X : Cx} {e : Expr}
theorem PE.imp {t t' : TE} (h : PE X e t) (f : ∀ σ H Q, t' σ H Q → t σ H Q) : PE X e t' := ⟨fun pins s σ H Q I q => h.run pins s σ H Q I (f _ _ _ q)⟩
theorem PT.imp {t t' : TT} (h : PT X e t) (f : ∀ σ H Q, t' σ H Q → t σ H Q) : PT X e t' := ⟨fun pins s σ H Q I q => h.run pins s σ H Q I (f _ _ _ q)⟩
theorem PW.imp {t t' : TT} (h : PW X e t) (f : ∀ σ H Q, t' σ H Q → t σ H Q) : PW X e t' := ⟨fun wh pins s σ H Q I q => h.run wh pins s σ H Q I (f _ _ _ q)⟩
theorem PA.imp {es : List Expr} {t t' : TA} (h : PA X es t) (f : ∀ σ H Q, t' σ H Q → t σ H Q) : PA X es t' := ⟨fun pos pins s σ H Q I q => h.run pos pins s σ H Q I (f _ _ _ q)⟩
theorem PS.imp {st : Stmt} {t t' : TS} (h : PS X st t) (f : ∀ D σ H, t' D σ H → t D σ H) : PS X st t' := ⟨fun pins s σ H D I q => h.run pins s σ H D I (f _ _ _ q)⟩
theorem PSs.imp {st : List Stmt} {t t' : TS} (h : PSs X st t) (f : ∀ D σ H, t' D σ H → t D σ H) : PSs X st t' := ⟨fun pins s σ H D I q => h.run pins s σ H D I (f _ _ _ q)⟩
theorem OpR.imp {f : Value → Value → Sem Value} {r r' : R2} (h : OpR X f r) (k : ∀ x y H Q, r' x y H Q → r x y H Q) : OpR X f r' := fun pins s σ H x y v u Q I a b q => h pins s σ H x y v u Q I a b (k _ _ _ _ q)
theorem UnR.imp {f : Value → Sem Value} {r r' : V → Hp → VK → Prop} (h : UnR X f r) (k : ∀ x H Q, r' x H Q → r x H Q) : UnR X f r' := fun pins s σ H x v Q I a q => h pins s σ H x v Q I a (k _ _ _ q)
theorem CallR.imp {f : Value} {r r' : List V → Hp → VK → Prop} (h : CallR X f r) (k : ∀ x H Q, r' x H Q → r x H Q) : CallR X f r' := fun pins s σ H x v Q I a q => h pins s σ H x v Q I a (k _ _ _ q)
theorem IxR.imp {r r' : R2} (h : IxR X r) (k : ∀ x y H Q, r' x y H Q → r x y H Q) : IxR X r' := fun va sl pins s σ H x y v u Q I a b q => h va sl pins s σ H x y v u Q I a b (k _ _ _ _ q)
theorem MtR.imp {id : String} {r r' : V → List V → Hp → VK → Prop} (h : MtR X id r) (k : ∀ x xs H Q, r' x xs H Q → r x xs H Q) : MtR X id r' := fun pins s σ H x xs v us Q I a b q => h pins s σ H x xs v us Q I a b (k _ _ _ _ q)
theorem SlR.imp {r r' : V → Option Int → Option Int → Hp → VK → Prop} (h : SlR X r) (k : ∀ x lo hi H Q, r' x lo hi H Q → r x lo hi H Q) : SlR X r' := fun pins s σ H x v vl vu lo hi sl Q I a b c d q => h pins s σ H x v vl vu lo hi sl Q I a b c d (k _ _ _ _ _ q)
end
end DL

/-! DL: expressions, tests, operators. -/
namespace DL
open PySem PySem.Spec PyProof.Rows L2

section
variable (X : Cx) (cl : Str → Addr) (E : XK)
abbrev PD (e : Expr) (m : Rho → Mo D) : Prop := PE X e (tD X.K cl E m)
abbrev PDT (e : Expr) (m : Rho → Mo Bool) : Prop := PT X e (tT X.K cl E m)
abbrev PDW (e : Expr) (m : Rho → Mo Bool) : Prop := PW X e (tT X.K cl E m)
abbrev PDA (es : List Expr) (m : Rho → Mo (List D)) : Prop := PA X es (tA X.K cl E m)
end
/-! ### what the pieces make -/
abbrev XE := Rho → Mo D
def eV (i : Nat) : XE := fun ρ => Mo.opt (ρ[i]?.join)
def eC (d : D) : XE := fun _ => Mo.ret d
def e1 (g : D → Mo D) (a : XE) : XE := fun ρ => Mo.bnd (a ρ) g
def e2 (g : D → D → Mo D) (a b : XE) : XE := fun ρ => Mo.bnd (a ρ) fun x => Mo.bnd (b ρ) fun y => g x y
def aL : List XE → Rho → Mo (List D)
  | [], _ => Mo.ret []
  | x :: xs, ρ => Mo.bnd (x ρ) fun d => Mo.bnd (aL xs ρ) fun ds => Mo.ret (d :: ds)
def eTup (xs : List XE) : XE := fun ρ => Mo.bnd (aL xs ρ) fun ds => Mo.ret (.tup ds)
def eLst (xs : List XE) : XE := fun ρ => Mo.bnd (aL xs ρ) fun ds => Mo.ret (.lst ds)
def newO (mo : MO) : Mo D := fun M => some (.ok (.obj M.length), M ++ [mo])
def eLstM (xs : List XE) : XE := fun ρ => Mo.bnd (aL xs ρ) fun ds => newO (.lst ds)
def eB (g : List D → Mo D) (xs : List XE) : XE := fun ρ => Mo.bnd (aL xs ρ) g
def bOf : D → Mo Bool
  | .bl b => Mo.ret b
  | _ => Mo.stop
def tV (m : XE) : Rho → Mo Bool := fun ρ => Mo.bnd (m ρ) bOf
def tAn (a b : Rho → Mo Bool) : Rho → Mo Bool := fun ρ => Mo.bnd (a ρ) fun c => if c = true then b ρ else Mo.ret false
def tOrr (a b : Rho → Mo Bool) : Rho → Mo Bool := fun ρ => Mo.bnd (a ρ) fun c => if c = true then Mo.ret true else b ρ
def tNo (a : Rho → Mo Bool) : Rho → Mo Bool := fun ρ => Mo.bnd (a ρ) fun c => Mo.ret (!c)
def eIf (t : Rho → Mo Bool) (a b : XE) : XE := fun ρ => Mo.bnd (t ρ) fun c => if c = true then a ρ else b ρ
def eAn (a b : XE) : XE := fun ρ => Mo.bnd (a ρ) fun d => Mo.bnd (bOf d) fun c => if c = true then b ρ else Mo.ret (.bl false)
def eOrr (a b : XE) : XE := fun ρ => Mo.bnd (a ρ) fun d => Mo.bnd (bOf d) fun c => if c = true then Mo.ret (.bl true) else b ρ
def eNo (a : XE) : XE := fun ρ => Mo.bnd (a ρ) fun d => Mo.bnd (bOf d) fun c => Mo.ret (.bl (!c))

section
variable {K : PySem.W.Frag} {cl : Str → Addr} {E : XK}
theorem Post.of_opt {α β : Type} {R : Wd → α → β → Prop} {W : Wd} {M : MS} {o : Option α} {Q : β → Hp → Prop} (h : Post K cl E R W (Mo.opt o M) Q) : ∃ a, o = some a ∧ ∀ W' H' v, W.le W' → R W' a v → HRel K cl W' M H' → Q v H' := by
  cases o with
  | none => exact h.elim
  | some a => exact ⟨a, rfl, h⟩
theorem join_some {ρ : Rho} {i : Nat} {d : D} (h : ρ[i]?.join = some d) : ρ[i]? = some (some d) := by
  cases e : ρ[i]? with
  | none => rw [e] at h; cases h
  | some o => rw [e] at h; rw [show o = some d from h]
end

section
variable {X : Cx} {cl : Str → Addr} {E : XK} {pos : Pos} {a b c e : Expr} {es : List Expr} {ma mb mc : XE}
theorem pd_v (i : Nat) {x : Str} (hN : X.N[i]? = some x := by rfl) (hv : Vis X.env.scope x := by first | exact Or.inl rfl | exact Or.inr (Or.inl rfl) | exact Or.inr (Or.inr rfl)) (hd : (x == ("__debug__" : Str)) = false := by decide)
    (hcd : (x == ("__classdict__" : Str)) = false := by decide) : PD X cl E (.Name x pos) (eV i) := PE.imp (pe_var hN hv hd hcd) fun σ H Q ⟨ρ, M, W, hρ, hH, hp⟩ => by
  obtain ⟨d, e, k⟩ := hp.of_opt
  obtain ⟨v, ev, rv⟩ := hρ.2 i d (join_some e)
  exact ⟨v, ev, k W H v (.refl W) rv hH⟩
theorem pd_const {d : D} {v : V} (h : PE X e (tC v)) (r : ∀ W, Rep X.K W d v) : PD X cl E e (eC d) := PE.imp h fun σ H Q ⟨ρ, M, W, hρ, hH, hp⟩ => hp W H v (.refl W) (r W) hH
theorem pd_int {i j} : PD X cl E (.Constant (.int i) j pos) (eC (.int i)) := pd_const pe_int fun _ => rfl
theorem pd_bl {i j} : PD X cl E (.Constant (.bool i) j pos) (eC (.bl i)) := pd_const pe_bl fun _ => rfl
theorem pd_non {j} : PD X cl E (.Constant .none j pos) (eC .non) := pd_const pe_non fun _ => rfl
theorem pd_str {i j} : PD X cl E (.Constant (.str i) j pos) (eC (.str i)) := pd_const pe_str fun _ => rfl
theorem pd_glob {x : Str} {u : Value} {v : V} {d : D} (hg : Gl X x) (hm : X.mg x = some u) (r : RelV v u) (hc : ∀ W, Rep X.K W d v) (hd : (x == ("__debug__" : Str)) = false := by decide) : PD X cl E (.Name x pos) (eC d) := pd_const (pe_glob hg hm r hd) hc

/-! ### argument lists, displays -/
theorem pda_nil : PDA X cl E [] (aL []) := PA.imp pa_nil fun σ H Q ⟨ρ, M, W, hρ, hH, hp⟩ => hp W H [] (.refl W) rfl hH
theorem pda_cons {m : XE} {ms : List XE} (ha : PD X cl E e m) (hr : PDA X cl E es (aL ms)) (hs : starEach (e :: es) X.env = (false, eval e X.env) :: starEach es X.env := by rfl) : PDA X cl E (e :: es) (aL (m :: ms)) :=
  PA.imp (pa_cons ha hr hs) fun σ H Q ⟨ρ, M, W, hρ, hH, hp⟩ => ⟨ρ, M, W, hρ, hH, hp.seq fun d M1 W1 H1 v l1 r1 hH1 hp1 => ⟨ρ, M1, W1, hρ.up l1, hH1, hp1.seq fun ds M2 W2 H2 vs l2 r2 hH2 hp2 => hp2 W2 H2 _ (.refl W2) ⟨v, vs, rfl, r1.up l2, r2⟩ hH2⟩⟩
theorem aL_len : ∀ {ms : List XE} {ρ : Rho} {M M' : MS} {ds : List D}, aL ms ρ M = some (.ok ds, M') → ds.length = ms.length
  | [], _, _, _, _, h => by cases h; rfl
  | m :: ms, ρ, M, M', ds, h => by
    obtain ⟨d, M1, _, h1⟩ := Mo.bnd_ok h
    obtain ⟨ds2, M2, e2, h2⟩ := Mo.bnd_ok h1
    cases h2
    rw [List.length_cons, List.length_cons, aL_len e2]
theorem Post.seqL {γ δ : Type} {S : Wd → γ → δ → Prop} {W : Wd} {M : MS} {ms : List XE} {ρ : Rho} {f : List D → Mo γ} {Q : δ → Hp → Prop} {Q' : List V → Hp → Prop} (h : Post X.K cl E S W (Mo.bnd (aL ms ρ) f M) Q)
    (k : ∀ a M' W' H' v, W.le W' → Reps X.K W' a v → a.length = ms.length → HRel X.K cl W' M' H' → Post X.K cl E S W' (f a M') Q → Q' v H') : Post X.K cl E (Reps X.K) W (aL ms ρ M) Q' := by
  unfold Mo.bnd at h
  cases e : aL ms ρ M with
  | none => rw [e] at h; exact h
  | some r =>
    rw [e] at h
    obtain ⟨r, M'⟩ := r
    cases r with
    | ok a => exact fun W' H' v l r hr => k a M' W' H' v l r (aL_len e) hr (h.up l)
    | error x => exact h
theorem HRel.mkTup {W : Wd} {M : MS} {H : Hp} {ds : List D} {vs : List V} {p : Addr} (h : HRel X.K cl W M H) (r : Reps X.K W ds vs) (hp : H p = none) :
    ∃ W', W.le W' ∧ HRel X.K cl W' M (upd H p (.tup vs)) ∧ Rep X.K W' (.tup ds) (.ref p) :=
  ⟨_, (h.frz hp).1, (h.frz hp).2, p, vs, rfl, SqT.of upd_same, r.up (h.frz (o := .tup vs) hp).1⟩
theorem HRel.mkLst {W : Wd} {M : MS} {H : Hp} {ds : List D} {vs : List V} {p : Addr} (h : HRel X.K cl W M H) (r : Reps X.K W ds vs) (hp : H p = none) :
    ∃ W', W.le W' ∧ HRel X.K cl W' M (upd H p (.lst vs)) ∧ Rep X.K W' (.lst ds) (.ref p) :=
  ⟨_, (h.frz hp).1, (h.frz hp).2, p, vs, rfl, Rd.of upd_same, r.up (h.frz (o := .lst vs) hp).1⟩
theorem pd_tup {x1} {ms : List XE} (h : PDA X cl E es (aL ms)) (hz : Nat.ble ms.length 1000 = true := by rfl) : PD X cl E (.Tuple es x1 pos) (eTup ms) :=
  PE.imp (pe_tup h) fun σ H Q ⟨ρ, M, W, hρ, hH, hp⟩ => ⟨ρ, M, W, hρ, hH, Post.seqL hp fun ds M1 W1 H1 vs l1 r1 z hH1 hp1 => ⟨by
    rw [r1.length, z]; exact Nat.le_of_lt (small1000 (Nat.le_of_ble_eq_true hz)), fun p hn => by
    obtain ⟨W2, l2, h2, r2⟩ := hH1.mkTup r1 hn
    exact hp1 W2 _ _ l2 r2 h2⟩⟩
theorem pd_lst {ms : List XE} (h : PDA X cl E es (aL ms)) (hz : Nat.ble ms.length 1000 = true := by rfl) : PD X cl E (.List es pos) (eLst ms) :=
  PE.imp (pe_lst h) fun σ H Q ⟨ρ, M, W, hρ, hH, hp⟩ => ⟨ρ, M, W, hρ, hH, Post.seqL hp fun ds M1 W1 H1 vs l1 r1 z hH1 hp1 => ⟨by
    rw [r1.length, z]; exact Nat.le_of_lt (small1000 (Nat.le_of_ble_eq_true hz)), fun p hn => by
    obtain ⟨W2, l2, h2, r2⟩ := hH1.mkLst r1 hn
    exact hp1 W2 _ _ l2 r2 h2⟩⟩
theorem HRel.mkObj {W : Wd} {M : MS} {H : Hp} {ds : List D} {vs : List V} {p : Addr} (h : HRel X.K cl W M H) (r : Reps X.K W ds vs) (hp : H p = none) :
    ∃ W', W.le W' ∧ HRel X.K cl W' (M ++ [.lst ds]) (upd H p (.lst vs)) ∧ Rep X.K W' (.obj M.length) (.ref p) := by
  have l : W.le ⟨W.ι ++ [p], W.G, W.F⟩ := ⟨fun n a e => by
    show (W.ι ++ [p])[n]? = some a
    rw [List.getElem?_append_left (List.getElem?_eq_some_iff.mp e).1]; exact e, fun _ _ e => e, fun _ _ e => e⟩
  obtain ⟨l1, h1, e1⟩ := h.new (mo := .lst ds) (o := .lst vs) hp (fun z => nomatch z) ⟨vs, rfl, r.up l⟩
  exact ⟨_, l1, h1, p, rfl, e1⟩
theorem pd_lstM {ms : List XE} (h : PDA X cl E es (aL ms)) (hz : Nat.ble ms.length 1000 = true := by rfl) : PD X cl E (.List es pos) (eLstM ms) :=
  PE.imp (pe_lst h) fun σ H Q ⟨ρ, M, W, hρ, hH, hp⟩ => ⟨ρ, M, W, hρ, hH, Post.seqL hp fun ds M1 W1 H1 vs l1 r1 z hH1 hp1 => ⟨by
    rw [r1.length, z]; exact Nat.le_of_lt (small1000 (Nat.le_of_ble_eq_true hz)), fun p hn => by
    obtain ⟨W2, l2, h2, r2⟩ := hH1.mkObj r1 hn
    exact hp1 W2 _ _ l2 r2 h2⟩⟩

/-! ### operators by values -/
variable (X cl E) in
def rD2 (g : D → D → Mo D) : R2 := fun x y H Q => ∃ d e M W, Rep X.K W d x ∧ Rep X.K W e y ∧ HRel X.K cl W M H ∧ Post X.K cl E (Rep X.K) W (g d e M) Q
variable (X cl E) in
def OpD (f : Value → Value → Sem Value) (g : D → D → Mo D) : Prop := OpR X f (rD2 X cl E g)
theorem tOp_of {r : R2} {g : D → D → Mo D} {ta tb : XE} (hr : ∀ x y H Q, rD2 X cl E g x y H Q → r x y H Q) : ∀ σ H Q, tD X.K cl E (e2 g ta tb) σ H Q → tOp r (tD X.K cl E ta) (tD X.K cl E tb) σ H Q :=
  fun σ H Q ⟨ρ, M, W, hρ, hH, hp⟩ => ⟨ρ, M, W, hρ, hH, hp.seq fun d M1 W1 H1 v l1 r1 hH1 hp1 => ⟨ρ, M1, W1, hρ.up l1, hH1, hp1.seq fun d2 M2 W2 H2 v2 l2 r2 hH2 hp2 => hr _ _ _ _ ⟨d, d2, M2, W2, r1.up l2, r2, hH2, hp2⟩⟩⟩
theorem pd_op {op : Operator} {g : D → D → Mo D} (ho : OpD X cl E (binaryOp op) g) (ha : PD X cl E a ma) (hb : PD X cl E b mb) : PD X cl E (.BinOp a op b pos) (e2 g ma mb) := PE.imp (pe_op ho ha hb) (tOp_of fun _ _ _ _ h => h)
theorem pd_cmp {op : CmpOp} {g : D → D → Mo D} (ho : OpD X cl E (compareOp op) g) (ha : PD X cl E a ma) (hb : PD X cl E b mb) (hm : behindInMarks op b = false) : PD X cl E (.Compare a [op] [b] pos) (e2 g ma mb) := PE.imp (pe_cmpR ho ha hb hm) (tOp_of fun _ _ _ _ h => h)
theorem Post.ofB {W : Wd} {d : D} {M : MS} {Q : Bool → Hp → Prop} (h : Post X.K cl E (fun _ (a b : Bool) => a = b) W (bOf d M) Q) : ∃ c, d = .bl c ∧ ∀ W' H', W.le W' → HRel X.K cl W' M H' → Q c H' := by
  cases d with
  | bl c => exact ⟨c, rfl, fun W' H' l hH => h W' H' c l rfl hH⟩
  | _ => exact h.elim
theorem pdt_cmp {op : CmpOp} {g : D → D → Mo D} (ho : OpD X cl E (compareOp op) g) (ha : PD X cl E a ma) (hb : PD X cl E b mb) (hm : behindInMarks op b = false) : PDT X cl E (.Compare a [op] [b] pos) (tV (e2 g ma mb)) :=
  PT.imp (pt_cmpR ho ha hb hm) fun σ H Q ⟨ρ, M, W, hρ, hH, hp⟩ => tOp_of (fun _ _ _ _ h => h) σ H _ ⟨ρ, M, W, hρ, hH, hp.seq fun d M1 W1 H1 v l1 r1 hH1 hp1 => by
    obtain ⟨c, rfl, k⟩ := hp1.ofB
    exact ⟨c, r1, k W1 H1 (.refl W1) hH1⟩⟩
theorem pdt_val {m : XE} (h : PD X cl E e m) (he : ∀ whole, isTrue e X.env whole = (do let v ← whole; standAt e.pos; holding [v] (truthy v)) := by intro _; rfl) : PDT X cl E e (tV m) :=
  PT.imp (pt_val h he) fun σ H Q ⟨ρ, M, W, hρ, hH, hp⟩ => ⟨ρ, M, W, hρ, hH, hp.seq fun d M1 W1 H1 v l1 r1 hH1 hp1 => by
    obtain ⟨c, rfl, k⟩ := hp1.ofB
    exact ⟨c, r1, k W1 H1 (.refl W1) hH1⟩⟩
/-- a op1 b op2 c -/
def eCh (f g : D → D → Mo D) (a b c : XE) : XE := fun ρ => Mo.bnd (a ρ) fun x => Mo.bnd (b ρ) fun y => Mo.bnd (f x y) fun z => Mo.bnd (bOf z) fun k => if k = true then Mo.bnd (c ρ) fun w => g y w else Mo.ret (.bl false)
theorem tCh_of {f g : D → D → Mo D} {ta tb tc : XE} : ∀ σ H Q, tD X.K cl E (eCh f g ta tb tc) σ H Q → tChain (rD2 X cl E f) (rD2 X cl E g) (tD X.K cl E ta) (tD X.K cl E tb) (tD X.K cl E tc) σ H Q :=
  fun σ H Q ⟨ρ, M, W, hρ, hH, hp⟩ => ⟨ρ, M, W, hρ, hH, hp.seq fun x M1 W1 H1 vx l1 r1 hH1 hp1 => ⟨ρ, M1, W1, hρ.up l1, hH1, hp1.seq fun y M2 W2 H2 vy l2 r2 hH2 hp2 => ⟨x, y, M2, W2, r1.up l2, r2, hH2, hp2.seq fun z M3 W3 H3 vz l3 r3 hH3 hp3 => by
    cases z with
    | bl k =>
      refine ⟨k, r3, ?_⟩
      cases k with
      | true => exact iteT ⟨ρ, M3, W3, hρ.up (l1.trans (l2.trans l3)), hH3, Post.seq hp3 fun w M4 W4 H4 vw l4 r4 hH4 hp4 => ⟨y, w, M4, W4, r2.up (l3.trans l4), r4, hH4, hp4⟩⟩
      | false => exact iteF (hp3 W3 H3 _ (.refl W3) rfl hH3)
    | _ => exact hp3.elim⟩⟩⟩
theorem pd_chain {op op' : CmpOp} {f g : D → D → Mo D} (ho : OpD X cl E (compareOp op) f) (ho' : OpD X cl E (compareOp op') g) (ha : PD X cl E a ma) (hb : PD X cl E b mb) (hc : PD X cl E c mc) (hm : lastMarks [op, op'] [b, c] = false := by with_unfolding_all rfl) :
    PD X cl E (.Compare a [op, op'] [b, c] pos) (eCh f g ma mb mc) := PE.imp (pe_chain ho ho' ha hb hc hm) tCh_of
theorem pdt_chain {op op' : CmpOp} {f g : D → D → Mo D} (ho : OpD X cl E (compareOp op) f) (ho' : OpD X cl E (compareOp op') g) (ha : PD X cl E a ma) (hb : PD X cl E b mb) (hc : PD X cl E c mc) (hm : lastMarks [op, op'] [b, c] = false := by with_unfolding_all rfl) :
    PDT X cl E (.Compare a [op, op'] [b, c] pos) (tV (eCh f g ma mb mc)) := PT.imp (pt_chain ho ho' ha hb hc hm) fun σ H Q ⟨ρ, M, W, hρ, hH, hp⟩ => tCh_of σ H _ ⟨ρ, M, W, hρ, hH, hp.seq fun d M1 W1 H1 v l1 r1 hH1 hp1 => by
    obtain ⟨c, rfl, k⟩ := hp1.ofB
    exact ⟨c, r1, k W1 H1 (.refl W1) hH1⟩⟩
variable {ta tb : Rho → Mo Bool} {rest : List Expr}
theorem pdw_and1 (ha : PDT X cl E a ta) : PDW X cl E (.BoolOp .And [a] pos) ta := pw_and1 ha
theorem pdw_or1 (ha : PDT X cl E a ta) : PDW X cl E (.BoolOp .Or [a] pos) ta := pw_or1 ha
theorem pdw_and (ha : PDT X cl E a ta) (hb : PDW X cl E (.BoolOp .And (b :: rest) pos) tb) : PDW X cl E (.BoolOp .And (a :: b :: rest) pos) (tAn ta tb) :=
  PW.imp (pw_and ha hb) fun σ H Q ⟨ρ, M, W, hρ, hH, hp⟩ => ⟨ρ, M, W, hρ, hH, hp.seq fun c M1 W1 H1 v l1 r1 hH1 hp1 => by
    subst r1
    cases c with
    | true => exact iteT ⟨ρ, M1, W1, hρ.up l1, hH1, hp1⟩
    | false => exact iteF (hp1 W1 H1 _ (.refl W1) rfl hH1)⟩
theorem pdw_or (ha : PDT X cl E a ta) (hb : PDW X cl E (.BoolOp .Or (b :: rest) pos) tb) : PDW X cl E (.BoolOp .Or (a :: b :: rest) pos) (tOrr ta tb) :=
  PW.imp (pw_or ha hb) fun σ H Q ⟨ρ, M, W, hρ, hH, hp⟩ => ⟨ρ, M, W, hρ, hH, hp.seq fun c M1 W1 H1 v l1 r1 hH1 hp1 => by
    subst r1
    cases c with
    | true => exact iteT (hp1 W1 H1 _ (.refl W1) rfl hH1)
    | false => exact iteF ⟨ρ, M1, W1, hρ.up l1, hH1, hp1⟩⟩
theorem pdt_bool (h : PDW X cl E e ta) : PDT X cl E e ta := PW.pt h
theorem pdt_not (ha : PDT X cl E a ta) : PDT X cl E (.UnaryOp .Not a pos) (tNo ta) :=
  PT.imp (pt_not ha) fun σ H Q ⟨ρ, M, W, hρ, hH, hp⟩ => ⟨ρ, M, W, hρ, hH, hp.seq fun c M1 W1 H1 v l1 r1 hH1 hp1 => by
    subst r1
    exact hp1 W1 H1 _ (.refl W1) rfl hH1⟩
theorem pd_one {op} {m : XE} (h : PD X cl E a m) : PD X cl E (.BoolOp op [a] pos) m := pe_one h
theorem pd_and (ha : PD X cl E a ma) (hb : PD X cl E (.BoolOp .And (b :: rest) pos) mb) : PD X cl E (.BoolOp .And (a :: b :: rest) pos) (eAn ma mb) :=
  PE.imp (pe_and ha hb) fun σ H Q ⟨ρ, M, W, hρ, hH, hp⟩ => ⟨ρ, M, W, hρ, hH, hp.seq fun d M1 W1 H1 v l1 r1 hH1 hp1 => by
    cases d with
    | bl c =>
      refine ⟨c, r1, ?_⟩
      cases c with
      | true => exact iteT ⟨ρ, M1, W1, hρ.up l1, hH1, hp1⟩
      | false => exact iteF (hp1 W1 H1 _ (.refl W1) rfl hH1)
    | _ => exact hp1.elim⟩
theorem pd_or (ha : PD X cl E a ma) (hb : PD X cl E (.BoolOp .Or (b :: rest) pos) mb) : PD X cl E (.BoolOp .Or (a :: b :: rest) pos) (eOrr ma mb) :=
  PE.imp (pe_or ha hb) fun σ H Q ⟨ρ, M, W, hρ, hH, hp⟩ => ⟨ρ, M, W, hρ, hH, hp.seq fun d M1 W1 H1 v l1 r1 hH1 hp1 => by
    cases d with
    | bl c =>
      refine ⟨c, r1, ?_⟩
      cases c with
      | true => exact iteT (hp1 W1 H1 _ (.refl W1) rfl hH1)
      | false => exact iteF ⟨ρ, M1, W1, hρ.up l1, hH1, hp1⟩
    | _ => exact hp1.elim⟩
theorem pd_not (ha : PD X cl E a ma) : PD X cl E (.UnaryOp .Not a pos) (eNo ma) :=
  PE.imp (pe_not ha) fun σ H Q ⟨ρ, M, W, hρ, hH, hp⟩ => ⟨ρ, M, W, hρ, hH, hp.seq fun d M1 W1 H1 v l1 r1 hH1 hp1 => by
    cases d with
    | bl c => exact ⟨c, r1, hp1 W1 H1 _ (.refl W1) rfl hH1⟩
    | _ => exact hp1.elim⟩
theorem pd_if {t : Rho → Mo Bool} (hc : PDT X cl E c t) (ha : PD X cl E a ma) (hb : PD X cl E b mb) : PD X cl E (.IfExp c a b pos) (eIf t ma mb) :=
  PE.imp (pe_ifExp hc ha hb) fun σ H Q ⟨ρ, M, W, hρ, hH, hp⟩ => ⟨ρ, M, W, hρ, hH, hp.seq fun c M1 W1 H1 v l1 r1 hH1 hp1 => by
    subst r1
    cases c with
    | true => exact iteT ⟨ρ, M1, W1, hρ.up l1, hH1, hp1⟩
    | false => exact iteF ⟨ρ, M1, W1, hρ.up l1, hH1, hp1⟩⟩
variable (X cl E) in
def rDL (g : List D → Mo D) : List V → Hp → VK → Prop := fun vs H Q => ∃ ds M W, Reps X.K W ds vs ∧ HRel X.K cl W M H ∧ Post X.K cl E (Rep X.K) W (g ds M) Q
variable (X cl E) in
def CallD (f : Value) (g : List D → Mo D) : Prop := CallR X f (rDL X cl E g)
theorem tCB_of {r : List V → Hp → VK → Prop} {g : List D → Mo D} {ms : List XE} (hr : ∀ x H Q, rDL X cl E g x H Q → r x H Q) : ∀ σ H Q, tD X.K cl E (eB g ms) σ H Q → tCB r (tA X.K cl E (aL ms)) σ H Q :=
  fun σ H Q ⟨ρ, M, W, hρ, hH, hp⟩ => ⟨ρ, M, W, hρ, hH, hp.seq fun ds M1 W1 H1 vs l1 r1 hH1 hp1 => hr _ _ _ ⟨ds, M1, W1, r1, hH1, hp1⟩⟩
theorem pd_B {id : String} {x : Str} {p : Pos} {g : List D → Mo D} {ms : List XE} (hc : CallD X cl E (.builtin id) g) (hg : Gl X x) (hm : X.mg x = none) (hv : bootBuiltins x = some (.builtin id)) (ha : PDA X cl E (e :: es) (aL ms)) (hn : x ≠ "__name__" := by decide) (hdb : (x == ("__debug__" : Str)) = false := by decide)
    (he : starEach (e :: es) X.env = (false, eval e X.env) :: starEach es X.env := by rfl) (hpl : (backTo pos (starEach es X.env)).any (·.1) = false := by rfl) : PD X cl E (.Call (.Name x p) (e :: es) [] pos) (eB g ms) :=
  PE.imp (pe_callB hc hg hm hv ha hn hdb he hpl) (tCB_of fun _ _ _ h => h)
theorem pd_Ty {T : String} {x : Str} {p : Pos} {g : List D → Mo D} {ms : List XE} (hc : CallD X cl E (.type T) g) (hg : Gl X x) (hm : X.mg x = none) (hv : bootBuiltins x = some (.type T)) (ha : PDA X cl E (e :: es) (aL ms)) (hn : x ≠ "__name__" := by decide) (hdb : (x == ("__debug__" : Str)) = false := by decide)
    (he : starEach (e :: es) X.env = (false, eval e X.env) :: starEach es X.env := by rfl) (hpl : (backTo pos (starEach es X.env)).any (·.1) = false := by rfl) : PD X cl E (.Call (.Name x p) (e :: es) [] pos) (eB g ms) :=
  PE.imp (pe_callTy hc hg hm hv ha hn hdb he hpl) (tCB_of fun _ _ _ h => h)
end
end DL

/-! DL: what the operators, comparisons and built-ins make of plain values. -/
namespace DL
open PySem PySem.Spec PyProof.Rows L2

/-! ### numbers -/
def mulOk (i j : Int) : Bool := decide (i.natAbs.log2 + j.natAbs.log2 < 1000000)
def divOk (j : Int) : Bool := decide (0 < j) && decide (j.natAbs.log2 < 9000)
def subD : D → D → Mo D
  | .int i, .int j => Mo.ret (.int (i - j))
  | _, _ => Mo.stop
def fdivD : D → D → Mo D
  | .int i, .int j => if divOk j = true then Mo.ret (.int (i / j)) else Mo.stop
  | _, _ => Mo.stop
def modD : D → D → Mo D
  | .int i, .int j => if 0 < j then Mo.ret (.int (i % j)) else Mo.stop
  | _, _ => Mo.stop
def powOk (i j : Int) : Bool := decide (0 ≤ j) && decide (j ≤ 1000000) && decide (i.natAbs < 2 ^ 64)
def powD : D → D → Mo D
  | .int i, .int j => if powOk i j = true then Mo.ret (.int (i ^ j.toNat)) else Mo.stop
  | _, _ => Mo.stop
def negD : D → Mo D
  | .int i => Mo.ret (.int (-i))
  | _ => Mo.stop
def cmpD (p : Int → Int → Bool) (q : Str → Str → Bool) : D → D → Mo D
  | .int i, .int j => Mo.ret (.bl (p i j))
  | .str x, .str y => Mo.ret (.bl (q x y))
  | _, _ => Mo.stop
def ltS (x y : Str) : Bool := decide (x.cps.toList < y.cps.toList)
def ltD := cmpD (fun i j => decide (i < j)) ltS
def leD := cmpD (fun i j => decide (i ≤ j)) fun x y => !ltS y x
def gtD := cmpD (fun i j => decide (j < i)) fun x y => ltS y x
def geD := cmpD (fun i j => decide (j ≤ i)) fun x y => !ltS x y
/-! ### sequences -/
def lstOf (M : MS) : D → Option (List D)
  | .lst xs => some xs
  | .obj n => match M[n]? with
    | some (.lst xs) => some xs
    | _ => none
  | _ => none
def seqOf (M : MS) : D → Option (List D)
  | .tup xs => some xs
  | d => lstOf M d
def fits (n : Nat) : Bool := decide (n ≤ sizeLine)
def catL (d e : D) : Mo D := fun M => match lstOf M d with
  | some xs => (match lstOf M e with
    | some ys => if fits (xs.length + ys.length) = true then some (.ok (.lst (xs ++ ys)), M) else none
    | none => none)
  | none => none
def addD : D → D → Mo D
  | .int i, .int j => Mo.ret (.int (i + j))
  | .str x, .str y => if fits (x.length + y.length) = true then Mo.ret (.str (x ++ y)) else Mo.stop
  | .tup xs, .tup ys => if fits (xs.length + ys.length) = true then Mo.ret (.tup (xs ++ ys)) else Mo.stop
  | .lst xs, e => catL (.lst xs) e
  | .obj n, e => catL (.obj n) e
  | _, _ => Mo.stop
/-! ### equality -/
mutual
def toPy : D → Option PyData
  | .non => some .none
  | .bl b => some (.bool b)
  | .int i => some (.int i)
  | .str x => some (.str x)
  | .tup xs => (toPys xs).map .tuple
  | .lst xs => (toPys xs).map .list
  | .emp => none
  | .scr _ => none
  | .obj _ => none
def toPys : List D → Option (List PyData)
  | [] => some []
  | d :: ds => match toPy d, toPys ds with
    | some x, some xs => some (x :: xs)
    | _, _ => none
end
/-- a text beside a flat value -/
def strEq : D → D → Option Bool
  | .str x, .str y => some (decide (x = y))
  | .str _, .int _ => some false
  | .str _, .bl _ => some false
  | .str _, .non => some false
  | .int _, .str _ => some false
  | .bl _, .str _ => some false
  | .non, .str _ => some false
  | _, _ => none
def deepEq (d e : D) : Option Bool := match toPy d, toPy e with
  | some a, some b => if (SeqAt.shaped a && SeqAt.shaped b) = true then some (PyData.eqv a b) else none
  | _, _ => none
def eqvD (d e : D) : Option Bool := match strEq d e with
  | some b => some b
  | none => deepEq d e
def eqD (d e : D) : Mo D := Mo.opt ((eqvD d e).map D.bl)
def neD (d e : D) : Mo D := Mo.opt ((eqvD d e).map fun b => D.bl (!b))
def isNonB : D → Bool
  | .non => true
  | _ => false
def isND (d e : D) : Mo D := match e with
  | .non => Mo.ret (.bl (isNonB d))
  | _ => Mo.stop
def isntND (d e : D) : Mo D := match e with
  | .non => Mo.ret (.bl (!isNonB d))
  | _ => Mo.stop
/-! ### items, lengths, kinds -/
def ixD (d e : D) : Mo D := fun M => match e with
  | .int i => (match d with
    | .str z => (match decide (z.length ≤ sizeLine), atI z.cps.toList i with
      | true, some c => some (.ok (.str ⟨#[c]⟩), M)
      | _, _ => none)
    | d => (match seqOf M d with
      | some xs => (match atI xs i with
        | some v => some (.ok v, M)
        | none => none)
      | none => none))
  | _ => none
def lenD : List D → Mo D
  | [.str z] => fun M => if fits z.length = true then some (.ok (.int z.length), M) else none
  | [d] => fun M => match seqOf M d with
    | some xs => some (.ok (.int xs.length), M)
    | none => none
  | _ => Mo.stop
def absD : List D → Mo D
  | [.int i] => Mo.ret (.int (i.natAbs : Int))
  | _ => Mo.stop
def intD : List D → Mo D
  | [.int i] => Mo.ret (.int i)
  | _ => Mo.stop
def strD : List D → Mo D
  | [.int i] => if decide (i.natAbs.log2 < 1920) = true then Mo.ret (.str (toString i)) else Mo.stop
  | _ => Mo.stop
def listD : List D → Mo D
  | [.scr ns] => Mo.ret (.lst (ns.map D.int))
  | [d] => fun M => match seqOf M d with
    | some xs => some (.ok (.lst xs), M)
    | none => none
  | _ => Mo.stop
def tupleD : List D → Mo D
  | [d] => fun M => match seqOf M d with
    | some xs => some (.ok (.tup xs), M)
    | none => none
  | _ => Mo.stop
def blsOf : List D → Option (List Bool)
  | [] => some []
  | .bl b :: ds => (blsOf ds).map (b :: ·)
  | _ :: _ => none
def intsOf : List D → Option (List Int)
  | [] => some []
  | .int b :: ds => (intsOf ds).map (b :: ·)
  | _ :: _ => none
def allD : List D → Mo D
  | [d] => fun M => match (lstOf M d).bind blsOf with
    | some bs => some (.ok (.bl (bs.all id)), M)
    | none => none
  | _ => Mo.stop
def sumD : List D → Mo D
  | [d] => fun M => match (lstOf M d).bind intsOf with
    | some bs => some (.ok (.int bs.sum), M)
    | none => none
  | _ => Mo.stop
inductive Ty where
  | tuple | list | str | int | bool
def Ty.nm : Ty → String
  | .tuple => "tuple" | .list => "list" | .str => "str" | .int => "int" | .bool => "bool"
def isT : Ty → D → Bool
  | .tuple, .tup _ => true
  | .list, .lst _ => true
  | .list, .obj _ => true
  | .str, .str _ => true
  | .int, .int _ => true
  | .int, .bl _ => true
  | .bool, .bl _ => true
  | _, _ => false
def isiD (T : Ty) (d : D) : Mo D := fun M => match d with
  | .obj n => (match lstOf M (.obj n) with
    | some _ => some (.ok (.bl (isT T d)), M)
    | none => none)
  | .scr _ => none
  | d => some (.ok (.bl (isT T d)), M)
/-! ### slices -/
def cut {α : Type} (xs : List α) (lo hi : Option Int) : List α := (xs.drop (HT.sIx xs.length 0 lo)).take (HT.sIx xs.length xs.length hi - HT.sIx xs.length 0 lo)

section
variable {K : PySem.W.Frag} {cl : Str → Addr} {W : Wd} {M : MS} {H : Hp}
theorem sqT_of (hH : HRel K cl W M H) {d : List D} {v : V} (r : Rep K W (.tup d) v) : ∃ a vs, v = .ref a ∧ SqT K H a vs ∧ Reps K W d vs := by
  obtain ⟨a, vs, e, s, q⟩ := r
  exact ⟨a, vs, e, sqT_mono hH.gle s, q⟩
theorem lst_of (hH : HRel K cl W M H) {d : D} {v : V} {xs : List D} (r : Rep K W d v) (h : lstOf M d = some xs) : ∃ a vs, v = .ref a ∧ Rd H a (.lst vs) ∧ Reps K W xs vs := by
  cases d with
  | lst ys =>
    have e : ys = xs := Option.some.inj h
    subst e
    obtain ⟨a, vs, e, s, q⟩ := r
    exact ⟨a, vs, e, rd_mono hH.gle s, q⟩
  | obj n =>
    obtain ⟨a, e, ea⟩ := r
    unfold lstOf at h
    cases em : M[n]? with
    | none => simp [em] at h
    | some mo =>
      simp only [em] at h
      cases mo with
      | lst ys =>
        have e2 : ys = xs := Option.some.inj h
        subst e2
        obtain ⟨b, eb, _, _, vs, ho, q⟩ := hH.obj n _ em
        rw [ea] at eb
        have eb := Option.some.inj eb
        subst eb
        exact ⟨a, vs, e, Rd.of ho, q⟩
      | _ => cases h
  | _ => cases h
theorem seq_of (hH : HRel K cl W M H) {d : D} {v : V} {xs : List D} (r : Rep K W d v) (h : seqOf M d = some xs) : ∃ a vs, v = .ref a ∧ (SqL K H a vs ∨ SqT K H a vs) ∧ Reps K W xs vs := by
  cases d with
  | tup ys =>
    have e : ys = xs := Option.some.inj h
    subst e
    obtain ⟨a, vs, e, s, q⟩ := sqT_of hH r
    exact ⟨a, vs, e, .inr s, q⟩
  | lst ys => obtain ⟨a, vs, e, s, q⟩ := lst_of hH r h; exact ⟨a, vs, e, .inl (.inl s), q⟩
  | obj n => obtain ⟨a, vs, e, s, q⟩ := lst_of hH r h; exact ⟨a, vs, e, .inl (.inl s), q⟩
  | _ => cases h
mutual
theorem dp_of (hg : ∀ a o, W.G a = some o → H a = some o) : ∀ (d : D) (v : V) (p : PyData), Rep K W d v → toPy d = some p → Dp K H v p
  | .non, _, _, r, h => by cases h; rw [show _ = _ from r]; exact .non
  | .bl b, _, _, r, h => by cases h; rw [show _ = _ from r]; exact .bl b
  | .int i, _, _, r, h => by cases h; rw [show _ = _ from r]; exact .int i
  | .str x, _, _, r, h => by cases h; rw [show _ = _ from r]; exact .str x
  | .tup ds, _, _, ⟨a, vs, e, s, q⟩, h => by
    subst e
    obtain ⟨ps, e, rfl⟩ := Option.map_eq_some_iff.mp (show (toPys ds).map PyData.tuple = some _ from h)
    exact .tup (sqT_mono hg s) (dps_of hg ds vs ps q e)
  | .lst ds, _, _, ⟨a, vs, e, s, q⟩, h => by
    subst e
    obtain ⟨ps, e, rfl⟩ := Option.map_eq_some_iff.mp (show (toPys ds).map PyData.list = some _ from h)
    exact .lst (.inl (rd_mono hg s)) (dps_of hg ds vs ps q e)
  | .emp, _, _, _, h => nomatch h
  | .scr _, _, _, _, h => nomatch h
  | .obj _, _, _, _, h => nomatch h
theorem dps_of (hg : ∀ a o, W.G a = some o → H a = some o) : ∀ (ds : List D) (vs : List V) (ps : List PyData), Reps K W ds vs → toPys ds = some ps → DpAll K H vs ps
  | [], _, _, r, h => by cases h; rw [show _ = [] from r]; exact .nil
  | d :: ds, _, _, ⟨v, us, e, r, q⟩, h => by
    subst e
    unfold toPys at h
    cases e1 : toPy d with
    | none => simp [e1] at h
    | some p =>
      cases e2 : toPys ds with
      | none => simp [e1, e2] at h
      | some ps =>
        simp only [e1, e2, Option.some.injEq] at h
        subst h
        exact .cons (dp_of hg d v p r e1) (dps_of hg ds us ps q e2)
end
end

section
variable {X : Cx} {cl : Str → Addr} {E : XK} {pos : Pos}
theorem od_int {f : Value → Value → Sem Value} {C : Int → Int → Prop} {g : Int → Int → V} {h : D → D → Mo D} (ho : OpR X f (rI C g))
    (hd : ∀ d e W M Q, Post X.K cl E (Rep X.K) W (h d e M) Q → ∃ i j, d = .int i ∧ e = .int j ∧ C i j ∧ ∀ H, HRel X.K cl W M H → Q (g i j) H) : OpD X cl E f h :=
  OpR.imp ho fun x y H Q ⟨d, e, M, W, r1, r2, hH, hp⟩ => by
    obtain ⟨i, j, rfl, rfl, c, k⟩ := hd d e W M Q hp
    exact ⟨i, j, r1, r2, c, k H hH⟩
theorem od_sub : OpD X cl E (binaryOp .Sub) subD := OpR.imp op_sub fun x y H Q ⟨d, e, M, W, r1, r2, hH, hp⟩ => by
  cases d <;> cases e <;> first | exact hp.elim | exact ⟨_, _, r1, r2, hp W H _ (.refl W) rfl hH⟩
theorem od_fdiv : OpD X cl E (binaryOp .FloorDiv) fdivD := OpR.imp op_fdivW fun x y H Q ⟨d, e, M, W, r1, r2, hH, hp⟩ => by
  cases d <;> cases e <;> first
    | exact hp.elim
    | (rename_i i j
       have hp : Post X.K cl E (Rep X.K) W ((if divOk j = true then Mo.ret (.int (i / j)) else Mo.stop : Mo D) M) Q := hp
       by_cases c : divOk j = true
       · rw [if_pos c] at hp
         have c2 := Bool.and_eq_true_iff.mp c
         exact ⟨_, _, r1, r2, ⟨of_decide_eq_true c2.1, of_decide_eq_true c2.2⟩, hp W H _ (.refl W) rfl hH⟩
       · rw [if_neg c] at hp; exact hp.elim)
theorem od_mod : OpD X cl E (binaryOp .Mod) modD := OpR.imp op_mod fun x y H Q ⟨d, e, M, W, r1, r2, hH, hp⟩ => by
  cases d <;> cases e <;> first
    | exact hp.elim
    | (rename_i i j
       have hp : Post X.K cl E (Rep X.K) W ((if 0 < j then Mo.ret (.int (i % j)) else Mo.stop : Mo D) M) Q := hp
       by_cases c : 0 < j
       · rw [if_pos c] at hp
         exact ⟨_, _, r1, r2, c, hp W H _ (.refl W) rfl hH⟩
       · rw [if_neg c] at hp; exact hp.elim)
theorem od_pow : OpD X cl E (binaryOp .Pow) powD := OpR.imp op_pow fun x y H Q ⟨d, e, M, W, r1, r2, hH, hp⟩ => by
  cases d <;> cases e <;> first
    | exact hp.elim
    | (rename_i i j
       have hp : Post X.K cl E (Rep X.K) W ((if powOk i j = true then Mo.ret (.int (i ^ j.toNat)) else Mo.stop : Mo D) M) Q := hp
       by_cases c : powOk i j = true
       · rw [if_pos c] at hp
         have c2 := Bool.and_eq_true_iff.mp c
         have c3 := Bool.and_eq_true_iff.mp c2.1
         exact ⟨_, _, r1, r2, ⟨of_decide_eq_true c3.1, of_decide_eq_true c3.2, of_decide_eq_true c2.2⟩, hp W H _ (.refl W) rfl hH⟩
       · rw [if_neg c] at hp; exact hp.elim)
theorem pd_neg {a : Expr} {ma : XE} (ha : PD X cl E a ma) : PD X cl E (.UnaryOp .USub a pos) (e1 negD ma) := PE.imp (pe_un un_neg ha) fun σ H Q ⟨ρ, M, W, hρ, hH, hp⟩ =>
  ⟨ρ, M, W, hρ, hH, hp.seq fun d M1 W1 H1 v l1 r1 hH1 hp1 => by
    cases d <;> first | exact hp1.elim | exact ⟨_, r1, hp1 W1 H1 _ (.refl W1) rfl hH1⟩⟩
theorem od_cmp {op : CmpOp} {p : Int → Int → Bool} {q : Str → Str → Bool} (h1 : OpR X (compareOp op) (rI0 fun i j => .bl (p i j))) (h2 : OpR X (compareOp op) fun x y H Q => ∃ i j, x = .str i ∧ y = .str j ∧ Q (.bl (q i j)) H) : OpD X cl E (compareOp op) (cmpD p q) :=
  OpR.imp (h1.or h2) fun x y H Q ⟨d, e, M, W, r1, r2, hH, hp⟩ => by
    cases d <;> cases e <;> first | exact hp.elim | exact .inl ⟨_, _, r1, r2, hp W H _ (.refl W) rfl hH⟩ | exact .inr ⟨_, _, r1, r2, hp W H _ (.refl W) rfl hH⟩
theorem od_lt : OpD X cl E (compareOp .Lt) ltD := od_cmp op_lt op_lt_str
theorem od_isN : OpD X cl E (compareOp .Is) isND := OpR.imp op_isN fun x y H Q ⟨d, e, M, W, r1, r2, hH, hp⟩ => by
  cases e <;> first
    | exact hp.elim
    | (refine ⟨r2, ?_⟩
       have q := hp W H _ (.refl W) rfl hH
       have e : decide (x = V.non) = isNonB d := by
         cases d <;> first
           | (rw [show x = _ from r1]; rfl)
           | (obtain ⟨a, _, z, _⟩ := r1; rw [z]; rfl)
           | (obtain ⟨a, z, _⟩ := r1; rw [z]; rfl)
       rw [e]; exact q)
theorem od_isntN : OpD X cl E (compareOp .IsNot) isntND := OpR.imp op_notN fun x y H Q ⟨d, e, M, W, r1, r2, hH, hp⟩ => by
  cases e <;> first
    | exact hp.elim
    | (refine ⟨r2, ?_⟩
       have q := hp W H _ (.refl W) rfl hH
       have e : decide (x = V.non) = isNonB d := by
         cases d <;> first
           | (rw [show x = _ from r1]; rfl)
           | (obtain ⟨a, _, z, _⟩ := r1; rw [z]; rfl)
           | (obtain ⟨a, z, _⟩ := r1; rw [z]; rfl)
       rw [e]; exact q)
/-! ### + -/
def rCatR (K : PySem.W.Frag) : R2 := fun x y H Q => ∃ l b xs zs, x = .ref l ∧ y = .ref b ∧ Rd H l (.lst xs) ∧ Rd H b (.lst zs) ∧ xs.length + zs.length ≤ sizeLine ∧ ∀ p, H p = none → Q (.ref p) (upd H p (.lst (xs ++ zs)))
theorem op_catR : OpR X (binaryOp .Add) (rCatR X.K) := by
  intro pins s σ H x y v u Q I rx ry h
  obtain ⟨l, b, xs, zs, rfl, rfl, hH, hB, hz, q⟩ := h
  cases rx
  cases ry
  obtain ⟨z, its, n, r, e⟩ := hH.ok I.hok
  obtain ⟨z2, its2, n2, r2, e2⟩ := hB.ok I.hok
  have hl := r.length
  have hl2 := r2.length
  refine PySem.P.add_list e e2 ?_ (by rw [List.size_toArray, List.size_toArray]; omega)
  have ea : its.toArray ++ its2.toArray = (its ++ its2).toArray := by simp
  rw [ea]
  exact ⟨.ref _, _, I.lnew (t' := s.toks) (r.append r2) (by rw [List.length_append]; omega), rfl, q _ I.fresh⟩
theorem fits_le {n : Nat} (h : fits n = true) : n ≤ sizeLine := of_decide_eq_true h
theorem catL_post {W : Wd} {M : MS} {H : Hp} {d e : D} {x y : V} {Q : VK} (r1 : Rep X.K W d x) (r2 : Rep X.K W e y) (hH : HRel X.K cl W M H) (hp : Post X.K cl E (Rep X.K) W (catL d e M) Q) : rCatR X.K x y H Q := by
  unfold catL at hp
  cases e1 : lstOf M d with
  | none => rw [e1] at hp; exact hp.elim
  | some xs =>
    rw [e1] at hp
    cases e2 : lstOf M e with
    | none => simp only [e2] at hp; exact hp.elim
    | some ys =>
      simp only [e2] at hp
      by_cases c : fits (xs.length + ys.length) = true
      · rw [if_pos c] at hp
        obtain ⟨a, vs, z1, s1, q1⟩ := lst_of hH r1 e1
        obtain ⟨b, us, z2, s2, q2⟩ := lst_of hH r2 e2
        refine ⟨a, b, vs, us, z1, z2, s1, s2, by rw [q1.length, q2.length]; exact fits_le c, fun p hn => ?_⟩
        obtain ⟨W2, l2, h2, r2⟩ := hH.mkLst (q1.append q2) hn
        exact hp W2 _ _ l2 r2 h2
      · rw [if_neg c] at hp; exact hp.elim
theorem od_add : OpD X cl E (binaryOp .Add) addD := OpR.imp (op_add.or (op_add_str.or (op_catA.or op_catR))) fun x y H Q ⟨d, e, M, W, r1, r2, hH, hp⟩ => by
  cases d with
  | int i => cases e <;> first | exact hp.elim | exact .inl ⟨_, _, r1, r2, hp W H _ (.refl W) rfl hH⟩
  | str x =>
    cases e with
    | str y =>
      have hp : Post X.K cl E (Rep X.K) W ((if fits (x.length + y.length) = true then Mo.ret (.str (x ++ y)) else Mo.stop : Mo D) M) Q := hp
      by_cases c : fits (x.length + y.length) = true
      · rw [if_pos c] at hp
        exact .inr (.inl ⟨_, _, r1, r2, fits_le c, hp W H _ (.refl W) rfl hH⟩)
      · rw [if_neg c] at hp; exact hp.elim
    | _ => exact hp.elim
  | tup xs =>
    cases e with
    | tup ys =>
      have hp : Post X.K cl E (Rep X.K) W ((if fits (xs.length + ys.length) = true then Mo.ret (.tup (xs ++ ys)) else Mo.stop : Mo D) M) Q := hp
      by_cases c : fits (xs.length + ys.length) = true
      · rw [if_pos c] at hp
        obtain ⟨a, vs, z1, s1, q1⟩ := sqT_of hH r1
        obtain ⟨b, us, z2, s2, q2⟩ := sqT_of hH r2
        refine .inr (.inr (.inl ⟨a, b, vs, us, z1, z2, s1, s2, by rw [q1.length, q2.length]; exact fits_le c, fun z => ?_, fun _ z => ?_, fun _ _ p hn => ?_⟩))
        · have z' := q1.nil_iff.mp z
          subst z'
          exact hp W H _ (.refl W) (z2 ▸ r2) hH
        · have z' := q2.nil_iff.mp z
          subst z'
          refine hp W H _ (.refl W) ?_ hH
          rw [List.append_nil]
          exact z1 ▸ r1
        · obtain ⟨W2, l2, h2, r2⟩ := hH.mkTup (q1.append q2) hn
          exact hp W2 _ _ l2 r2 h2
      · rw [if_neg c] at hp; exact hp.elim
    | _ => exact hp.elim
  | lst xs => exact .inr (.inr (.inr (catL_post r1 r2 hH hp)))
  | obj n => exact .inr (.inr (.inr (catL_post r1 r2 hH hp)))
  | _ => exact hp.elim
/-! ### ==, != -/
theorem eqv_dp {W : Wd} {M : MS} {H : Hp} {d e : D} {x y : V} {b : Bool} (hH : HRel X.K cl W M H) (r1 : Rep X.K W d x) (r2 : Rep X.K W e y) (h : deepEq d e = some b) :
    ∃ p q, Dp X.K H x p ∧ Dp X.K H y q ∧ SeqAt.shaped p = true ∧ SeqAt.shaped q = true ∧ PyData.eqv p q = b := by
  unfold deepEq at h
  cases e1 : toPy d with
  | none => simp [e1] at h
  | some p =>
    cases e2 : toPy e with
    | none => simp [e1, e2] at h
    | some q =>
      simp only [e1, e2] at h
      by_cases c : (SeqAt.shaped p && SeqAt.shaped q) = true
      · rw [if_pos c] at h
        have c2 := Bool.and_eq_true_iff.mp c
        exact ⟨p, q, dp_of hH.gle d x p r1 e1, dp_of hH.gle e y q r2 e2, c2.1, c2.2, Option.some.inj h⟩
      · rw [if_neg c] at h; cases h
theorem strEq_v {W : Wd} {d e : D} {x y : V} {b : Bool} (r1 : Rep X.K W d x) (r2 : Rep X.K W e y) (h : strEq d e = some b) : scal x y = true ∧ decide (x = y) = b := by
  cases d with
  | str z =>
    cases e with
    | str u =>
      rw [show x = _ from r1, show y = _ from r2]
      refine ⟨rfl, ?_⟩
      rw [← Option.some.inj (show some (decide (z = u)) = some b from h)]
      by_cases c : z = u
      · subst c; simp
      · rw [decide_eq_false c, decide_eq_false (fun q => c (V.str.inj q))]
    | int u => rw [show x = _ from r1, show y = _ from r2]; exact ⟨rfl, by rw [← Option.some.inj (show some false = some b from h)]; exact decide_eq_false (fun q => nomatch q)⟩
    | bl u => rw [show x = _ from r1, show y = _ from r2]; exact ⟨rfl, by rw [← Option.some.inj (show some false = some b from h)]; exact decide_eq_false (fun q => nomatch q)⟩
    | non => rw [show x = _ from r1, show y = _ from r2]; exact ⟨rfl, by rw [← Option.some.inj (show some false = some b from h)]; exact decide_eq_false (fun q => nomatch q)⟩
    | _ => cases h
  | int z =>
    cases e with
    | str u => rw [show x = _ from r1, show y = _ from r2]; exact ⟨rfl, by rw [← Option.some.inj (show some false = some b from h)]; exact decide_eq_false (fun q => nomatch q)⟩
    | _ => cases h
  | bl z =>
    cases e with
    | str u => rw [show x = _ from r1, show y = _ from r2]; exact ⟨rfl, by rw [← Option.some.inj (show some false = some b from h)]; exact decide_eq_false (fun q => nomatch q)⟩
    | _ => cases h
  | non =>
    cases e with
    | str u => rw [show x = _ from r1, show y = _ from r2]; exact ⟨rfl, by rw [← Option.some.inj (show some false = some b from h)]; exact decide_eq_false (fun q => nomatch q)⟩
    | _ => cases h
  | _ => cases e <;> cases h
theorem eqvD_two {d e : D} {b : Bool} (h : eqvD d e = some b) : strEq d e = some b ∨ deepEq d e = some b := by
  unfold eqvD at h
  cases q : strEq d e with
  | none => rw [q] at h; exact .inr h
  | some c => rw [q] at h; exact .inl h
theorem od_eq (hu : X.A.units + 64 < cLine) : OpD X cl E (compareOp .Eq) eqD := OpR.imp (op_eq.or (op_eqD hu)) fun x y H Q ⟨d, e, M, W, r1, r2, hH, hp⟩ => by
  obtain ⟨z, h, k⟩ := hp.of_opt
  obtain ⟨b, e1, rfl⟩ := Option.map_eq_some_iff.mp h
  rcases eqvD_two e1 with e1 | e1
  · obtain ⟨a1, a2⟩ := strEq_v r1 r2 e1
    exact .inl ⟨a1, by rw [a2]; exact k W H _ (.refl W) rfl hH⟩
  · obtain ⟨p, q, a1, a2, a3, a4, rfl⟩ := eqv_dp hH r1 r2 e1
    exact .inr ⟨p, q, a1, a2, a3, a4, k W H _ (.refl W) rfl hH⟩
theorem od_ne (hu : X.A.units + 64 < cLine) : OpD X cl E (compareOp .NotEq) neD := OpR.imp (op_ne.or (op_neD hu)) fun x y H Q ⟨d, e, M, W, r1, r2, hH, hp⟩ => by
  obtain ⟨z, h, k⟩ := hp.of_opt
  obtain ⟨b, e1, rfl⟩ := Option.map_eq_some_iff.mp h
  rcases eqvD_two e1 with e1 | e1
  · obtain ⟨a1, a2⟩ := strEq_v r1 r2 e1
    exact .inl ⟨a1, by rw [a2]; exact k W H _ (.refl W) rfl hH⟩
  · obtain ⟨p, q, a1, a2, a3, a4, rfl⟩ := eqv_dp hH r1 r2 e1
    exact .inr ⟨p, q, a1, a2, a3, a4, k W H _ (.refl W) rfl hH⟩
end
end DL

/-! DL: items, lengths, slices, the small built-ins. -/
namespace HT
open PySem PySem.Spec PyProof.Rows L2
section
variable {prog : Program} {w : World} {A : Around} {E : Value → Shared → Prop} {s : Shared}
theorem sliceApplied_rev {sl : Addr} {vl vu vs : Value} {n : Nat} {Q : Int × Int × Nat → Shared → Prop} (hs : s.heap.IsSliceOf sl vl vu vs) (pl : IsPart vl none) (pu : IsPart vu none) (ps : IsPart vs (some (-1)))
    (h : Q ((n : Int) - 1, -1, n) s) : wpAny (model prog w) A (Builtin.Slice.sliceApplied (.ref sl) (pure (n : Int))) Q E s := by
  obtain ⟨os, hos, hcs, hds⟩ := id hs
  unfold Builtin.Slice.sliceApplied Builtin.Slice.sliceFields
  refine wpAny_bind (wpAny_bind (wpAny_field hos hds (x := vl) rfl (wpAny_bind (wpAny_field hos hds (x := vu) rfl (wpAny_bind (wpAny_field hos hds (x := vs) rfl (wpAny_pure ?_)))))))
  refine wpAny_bind (slicePart_ ps ?_)
  show wpAny _ _ (if ((-1 : Int) == 0) = true then _ else _) _ _ s
  rw [if_neg (by decide)]
  refine wpAny_bind (slicePart_ pl (wpAny_bind (slicePart_ pu (wpAny_bind (wpAny_pure ?_)))))
  show wpAny _ _ (match Builtin.Slice.sliceAdjust none none (-1) (n : Int) with | (lo, hi) => pure (lo, (-1 : Int), Builtin.Slice.slicePlaces lo hi (-1))) _ _ s
  have e1 : Builtin.Slice.sliceAdjust none none (-1) (n : Int) = ((n : Int) - 1, -1) := rfl
  rw [e1]
  show wpAny _ _ (pure ((n : Int) - 1, (-1 : Int), Builtin.Slice.slicePlaces ((n : Int) - 1) (-1) (-1))) _ _ s
  have e2 : Builtin.Slice.slicePlaces ((n : Int) - 1) (-1) (-1) = n := by
    unfold Builtin.Slice.slicePlaces
    have h1 : ¬ ((-1 : Int) > 0) := by decide
    simp only [h1, if_false]
    by_cases hn : (n : Int) - 1 > -1
    · rw [if_pos hn]
      rw [show (-(-1) : Int) = 1 by decide, Int.ediv_one]
      omega
    · rw [if_neg hn]
      omega
  rw [e2]
  exact wpAny_pure h
theorem pick_rev (xs : Array Value) : ((List.range xs.size).filterMap fun (m : Nat) => xs[(((xs.size : Int) - 1) + (m : Int) * (-1)).toNat]?).toArray = xs.toList.reverse.toArray := by
  congr 1
  apply List.ext_getElem?
  intro i
  have e : ∀ l : List Nat, (∀ m ∈ l, m < xs.size) → l.filterMap (fun (m : Nat) => xs[(((xs.size : Int) - 1) + (m : Int) * (-1)).toNat]?) = l.filterMap (fun (m : Nat) => xs[xs.size - 1 - m]?) := by
    intro l
    induction l with
    | nil => intro _; rfl
    | cons m l ih =>
      intro h
      have hm := h m List.mem_cons_self
      rw [List.filterMap_cons, List.filterMap_cons, ih fun k hk => h k (List.mem_cons_of_mem _ hk), show (((xs.size : Int) - 1) + (m : Int) * (-1)).toNat = xs.size - 1 - m by omega]
  rw [e _ fun m hm => List.mem_range.mp hm]
  have e2 : (List.range xs.size).filterMap (fun (m : Nat) => xs[xs.size - 1 - m]?) = ((List.range xs.size).map fun k => xs.size - 1 - k).filterMap (xs[·]?) := by
    rw [List.filterMap_map]; rfl
  rw [e2, PySem.W.krv_range, List.filterMap_reverse, PySem.W.krv_all]
theorem getItem_tuple_rev {t sl : Addr} {items : Array Value} {vl vu vs : Value} {Q : Value → Shared → Prop} (ht : IsTup s.heap t items) (hs : s.heap.IsSliceOf sl vl vu vs) (pl : IsPart vl none) (pu : IsPart vu none) (ps : IsPart vs (some (-1)))
    (h : Q (.ref s.heap.objs.size) { s with heap := s.heap.push { cls := .type "tuple", data := .seq items.toList.reverse.toArray } })
    (hsz : items.size ≤ sizeLine) : wpAny (model prog w) A (getItem (.ref t) (.ref sl)) Q E s := by
  have htake : sizeOk (.seq items.toList.reverse.toArray) := by
    show items.toList.reverse.toArray.size ≤ sizeLine
    rw [List.size_toArray, List.length_reverse, Array.length_toList]
    omega
  obtain ⟨os, hos, hcs, hds⟩ := id hs
  have hTs : s.TypeIs (.ref sl) "slice" := ⟨os, hos, hcs⟩
  unfold getItem
  try with_reducible refine wpAny_holding ?_
  first | refine wpAny_bind (wpAny_pure ?_) | skip
  refine wpAny_bind (wpAny_sequenceKey ht.typeIs (by decide) ?_)
  refine wpAny_bind (wpAny_callSpecial?_slot (name := Str.ofString "__getitem__") ht.typeIs PyProof.Rows.slot_tuple_getitem
    (wpAny_call_entry PyProof.Rows.slot_tuple_getitem ht.typeIs entry_tuple_getitem ?_ (args_tuple_getitem _ _)))
  show wpAny _ _ (Builtin.Tuple.tupleItemsOf (.ref t) >>= _) _ _ s
  refine wpAny_bind (tupleItemsOf_ ht ?_)
  refine wpAny_bind (wpAny_typeOf hTs ?_)
  rw [if_pos (by decide)]
  refine wpAny_bind (sliceApplied_rev hs pl pu ps ?_)
  have hno : ¬ ((((items.size : Int) - 1) == 0 && (-1 : Int) == 1 && items.size == items.size) = true) := by
    intro q
    rw [Bool.and_eq_true, Bool.and_eq_true] at q
    exact absurd q.1.2 (by decide)
  show wpAny _ _ (if (((items.size : Int) - 1) == 0 && (-1 : Int) == 1 && items.size == items.size) = true then _ else _) _ _ s
  rw [if_neg hno, pick_rev]
  first
    | exact wpAny_bind (m := Builtin.Tuple.tupleExact _) (wpAny_newObj_type (wpAny_pure ⟨_, rfl, wpAny_pure h⟩) htake)
    | exact wpAny_bind (m := Builtin.Tuple.tupleExact _) (wpAny_newObj_type (wpAny_bind (wpAny_pure (wpAny_pure ⟨_, rfl, wpAny_pure h⟩))) htake)
    | exact wpAny_bind (wpAny_bind (m := Builtin.Tuple.tupleExact _) (wpAny_newObj_type (wpAny_pure (wpAny_pure ⟨_, rfl, wpAny_pure h⟩)) htake))
    | exact wpAny_bind (wpAny_bind (m := Builtin.Tuple.tupleExact _) (wpAny_newObj_type (wpAny_pure ⟨_, rfl, wpAny_pure h⟩) htake))
end
end HT

namespace DL
open PySem PySem.Spec PyProof.Rows L2
/-! ### slices -/
abbrev XP := Rho → Mo (Option Int)
def pNo : XP := fun _ => Mo.ret none
def pSo (m : XE) : XP := fun ρ => Mo.bnd (m ρ) fun d => match d with
  | .int i => Mo.ret (some i)
  | _ => Mo.stop
def slD (lo hi : Option Int) (d : D) : Mo D := match d with
  | .tup xs => Mo.ret (.tup (cut xs lo hi))
  | .str z => if fits z.length = true then Mo.ret (.str (cutS z lo hi)) else Mo.stop
  | .scr ns => Mo.ret (.lst ((cut ns lo hi).map D.int))
  | d => fun M => match lstOf M d with
    | some xs => some (.ok (.lst (cut xs lo hi)), M)
    | none => none
def eSl (a : XE) (lo hi : XP) : XE := fun ρ => Mo.bnd (a ρ) fun d => Mo.bnd (lo ρ) fun l => Mo.bnd (hi ρ) fun h => slD l h d
def revD (d : D) : Mo D := match d with
  | .tup xs => Mo.ret (.tup xs.reverse)
  | d => fun M => match lstOf M d with
    | some xs => some (.ok (.lst xs.reverse), M)
    | none => none
section
variable {K : PySem.W.Frag} {cl : Str → Addr} {E : XK}
variable (K cl E) in
def tP (m : XP) : TO := fun σ H Q => ∃ ρ M W, RhoR K W σ ρ ∧ HRel K cl W M H ∧ Post K cl E (fun _ (a b : Option Int) => a = b) W (m ρ M) Q
theorem Reps.cut {W : Wd} {ds : List D} {vs : List V} (h : Reps K W ds vs) (lo hi : Option Int) : Reps K W (DL.cut ds lo hi) (cutV vs lo hi) := by
  unfold DL.cut cutV
  rw [h.length]
  exact (h.drop _).take _
theorem cut_ints (ns : List Int) (lo hi : Option Int) : cutV (ns.map V.int) lo hi = (cut ns lo hi).map V.int := by
  unfold cutV cut
  rw [List.length_map, List.map_take, List.map_drop]
theorem Reps.ofInts {W : Wd} (ns : List Int) : Reps K W (ns.map D.int) (ns.map V.int) := Reps.map fun _ _ => rfl
end
section
variable {X : Cx} {cl : Str → Addr} {E : XK} {pos : Pos} {a b e : Expr} {es : List Expr} {ma mb : XE}
theorem po_no : PO X none (tP X.K cl E pNo) := ⟨fun pins s σ H Q I ⟨ρ, M, W, hρ, hH, hp⟩ => po_none.run pins s σ H Q I (hp W H none (.refl W) rfl hH)⟩
theorem po_so {m : XE} (h : PD X cl E e m) : PO X (some e) (tP X.K cl E (pSo m)) := ⟨fun pins s σ H Q I ⟨ρ, M, W, hρ, hH, hp⟩ => (po_some h).run pins s σ H Q I ⟨ρ, M, W, hρ, hH, hp.seq fun d M1 W1 H1 v l1 r1 hH1 hp1 => by
  cases d <;> first | exact hp1.elim | exact ⟨_, r1, hp1 W1 H1 _ (.refl W1) rfl hH1⟩⟩⟩
theorem od_le : OpD X cl E (compareOp .LtE) leD := od_cmp op_le op_le_str
theorem od_gt : OpD X cl E (compareOp .Gt) gtD := od_cmp op_gt op_gt_str
theorem od_ge : OpD X cl E (compareOp .GtE) geD := od_cmp op_ge op_ge_str
theorem pd_sl {lo hi : Option Expr} {p2 : Pos} {mlo mhi : XP} (he : PD X cl E e ma) (hl : PO X lo (tP X.K cl E mlo)) (hu : PO X hi (tP X.K cl E mhi)) : PD X cl E (.Subscript e (.Slice lo hi none p2) pos) (eSl ma mlo mhi) :=
  PE.imp (pe_slice (sl_list.or (sl_tupA.or sl_str)) he hl hu) fun σ H Q ⟨ρ, M, W, hρ, hH, hp⟩ => ⟨ρ, M, W, hρ, hH, hp.seq fun d M1 W1 H1 v l1 r1 hH1 hp1 => ⟨ρ, M1, W1, hρ.up l1, hH1, hp1.seq fun lo M2 W2 H2 lo' l2 q2 hH2 hp2 => by
    subst q2
    refine ⟨ρ, M2, W2, hρ.up (l1.trans l2), hH2, hp2.seq fun hi M3 W3 H3 hi' l3 q3 hH3 hp3 => ?_⟩
    subst q3
    have r3 := r1.up (l2.trans l3)
    have lists : ∀ xs, lstOf M3 d = some xs → slD lo hi d M3 = some (.ok (.lst (cut xs lo hi)), M3) → rSlL X.K v lo hi H3 Q := fun xs e z => by
      obtain ⟨a, vs, z1, s1, q1⟩ := lst_of hH3 r3 e
      refine ⟨a, vs, z1, .inl s1, fun p hn => ?_⟩
      rw [z] at hp3
      obtain ⟨W4, l4, h4, r4⟩ := hH3.mkLst (q1.cut lo hi) hn
      exact hp3 W4 _ _ l4 r4 h4
    cases d with
    | tup xs =>
      obtain ⟨a, vs, z1, s1, q1⟩ := sqT_of hH3 r3
      refine .inr (.inl ⟨a, vs, z1, s1, fun z => ?_, fun _ p hn => ?_⟩)
      · refine hp3 W3 H3 _ (.refl W3) ?_ hH3
        have e : cut xs lo hi = xs := by
          unfold cut
          rw [← q1.length, z.1, z.2, List.drop_zero, q1.length]
          exact List.take_of_length_le (by omega)
        rw [e]
        exact z1 ▸ r3
      · obtain ⟨W4, l4, h4, r4⟩ := hH3.mkTup (q1.cut lo hi) hn
        exact hp3 W4 _ _ l4 r4 h4
    | str z =>
      have hp3 : Post X.K cl E (Rep X.K) W3 ((if fits z.length = true then Mo.ret (.str (cutS z lo hi)) else Mo.stop : Mo D) M3) Q := hp3
      by_cases c : fits z.length = true
      · rw [if_pos c] at hp3
        exact .inr (.inr ⟨z, r3, fits_le c, hp3 W3 H3 _ (.refl W3) rfl hH3⟩)
      · rw [if_neg c] at hp3; exact hp3.elim
    | scr ns =>
      obtain ⟨a, z1, s1⟩ := r3
      refine .inl ⟨a, _, z1, sqL_mono hH3.gle s1, fun p hn => ?_⟩
      rw [cut_ints]
      obtain ⟨W4, l4, h4, r4⟩ := hH3.mkLst (Reps.ofInts (cut ns lo hi)) hn
      exact hp3 W4 _ _ l4 r4 h4
    | lst xs => exact .inl (lists xs rfl rfl)
    | obj n =>
      cases e : lstOf M3 (.obj n) with
      | none =>
        have z : slD lo hi (.obj n) M3 = none := by unfold slD; simp only [e]
        rw [z] at hp3; exact hp3.elim
      | some xs => exact .inl (lists xs e (by unfold slD; simp only [e]))
    | _ => exact hp3.elim⟩⟩
/-- x[::-1] -/
theorem pe_revT {te : TE} {k : Nat} {p1 p2 p3 pos : Pos} (he : PE X e te) : PE X (.Subscript e (.Slice none none (some (.UnaryOp .USub (.Constant (.int 1) k p1) p2)) p3) pos)
    (fun σ H Q => te σ H fun x H1 => ∃ a xs, x = .ref a ∧ ((SqL X.K H1 a xs ∧ ∀ p, H1 p = none → Q (.ref p) (upd H1 p (.lst xs.reverse))) ∨ (SqT X.K H1 a xs ∧ ∀ p, H1 p = none → Q (.ref p) (upd H1 p (.tup xs.reverse))))) := by
  refine ⟨fun pins s σ H Q I h => ?_⟩
  refine Subscript_ (thn (he.run pins s σ H _ I h) fun v s1 ⟨x, H1, I1, r1, q1⟩ => ?_)
  obtain ⟨a, xs, ex, q⟩ := q1
  subst ex
  cases r1
  have hst : PO X (some (.UnaryOp .USub (.Constant (.int 1) k p1) p2)) (tPart (tUn (rU fun i => .int (-i)) (tC (.int 1)))) := po_some (pe_un un_neg pe_int)
  refine wpAny_Slice (thn (po_none.run pins s1 σ H1 (fun o H2 => o = none ∧ H2 = H1) I1 ⟨rfl, rfl⟩) fun vl s2 ⟨l, H2, I2, pl, el, e2⟩ => ?_)
  subst el e2
  refine thn (po_none.run pins s2 σ H2 (fun o H3 => o = none ∧ H3 = H2) I2 ⟨rfl, rfl⟩) fun vu s3 ⟨u, H3, I3, pu, eu, e3⟩ => ?_
  subst eu e3
  refine thn (hst.run pins s3 σ H3 (fun o H4 => o = some (-1) ∧ H4 = H3) I3 ⟨1, rfl, -1, rfl, rfl, rfl⟩) fun vs s4 ⟨o, H4, I4, ps, eo, e4⟩ => ?_
  subst eo e4
  have I5 : Inv X pins σ H4 { s4 with heap := s4.heap.push { cls := .type "slice", data := .fields #[vl, vu, vs] } } := I4.kept (t' := s4.toks) fun b ob q => Heap.get?_push_of_some _ q
  show wpAny (model X.prog X.w) X.A (subscriptTail e (.Slice none none (some (.UnaryOp .USub (.Constant (.int 1) k p1) p2)) p3) (.ref a) (.ref s4.heap.objs.size)) (EP X pins σ Q) X.xe { s4 with heap := s4.heap.push { cls := .type "slice", data := .fields #[vl, vu, vs] } }
  rcases q with ⟨hx, q⟩ | ⟨hx, q⟩
  · obtain ⟨its, r, ht, hz⟩ := I5.list hx
    have hlen := r.length
    refine tail_any (ops := [.ref a, .ref s4.heap.objs.size]) ht.isList.typeIs (PySem.slot_list_getitem.lookup) ?_ (by with_unfolding_all rfl)
    refine wpAny_getItem_list_slice ht.isList (Heap.IsSliceOf.new _ vl vu vs) pl pu ps (by decide) ?_ (by rw [List.size_toArray]; omega)
    rw [PySem.W.krv_pick]
    refine ⟨.ref _, _, I5.laid (t' := s4.toks) (o := .lst xs.reverse) (fun b ob q => Heap.get?_push_of_some _ q) (Nat.le_refl _) ?_, rfl, q _ (I5.hok.fresh (Nat.le_refl _))⟩
    exact ⟨by rw [List.length_reverse]; exact hz, _, 0, r.reverse, Heap.get?_push_size _ rfl⟩
  · obtain ⟨its, r, ht, hz⟩ := I5.tuple hx
    have hlen := r.length
    refine tail_any (ops := [.ref a, .ref s4.heap.objs.size]) ht.typeIs (PyProof.Rows.slot_tuple_getitem.lookup) ?_ (by with_unfolding_all rfl)
    refine HT.getItem_tuple_rev ht (Heap.IsSliceOf.new _ vl vu vs) pl pu ps ?_ (by rw [List.size_toArray]; omega)
    refine ⟨.ref _, _, I5.laid (t' := s4.toks) (o := .tup xs.reverse) (fun b ob q => Heap.get?_push_of_some _ q) (Nat.le_refl _) ?_, rfl, q _ (I5.hok.fresh (Nat.le_refl _))⟩
    exact ⟨by rw [List.length_reverse]; exact hz, _, r.reverse, ⟨_, Heap.get?_push_size _ rfl, rfl, _, rfl⟩⟩
theorem pd_rev {k : Nat} {p1 p2 p3 pos : Pos} (he : PD X cl E e ma) : PD X cl E (.Subscript e (.Slice none none (some (.UnaryOp .USub (.Constant (.int 1) k p1) p2)) p3) pos) (e1 revD ma) :=
  PE.imp (pe_revT he) fun σ H Q ⟨ρ, M, W, hρ, hH, hp⟩ => ⟨ρ, M, W, hρ, hH, hp.seq fun d M1 W1 H1 v l1 r1 hH1 hp1 => by
    have lists : ∀ xs, lstOf M1 d = some xs → revD d M1 = some (.ok (.lst xs.reverse), M1) → ∃ a xs, v = .ref a ∧ ((SqL X.K H1 a xs ∧ ∀ p, H1 p = none → Q (.ref p) (upd H1 p (.lst xs.reverse))) ∨ (SqT X.K H1 a xs ∧ ∀ p, H1 p = none → Q (.ref p) (upd H1 p (.tup xs.reverse)))) := fun xs e z => by
      obtain ⟨a, vs, z1, s1, q1⟩ := lst_of hH1 r1 e
      rw [z] at hp1
      refine ⟨a, vs, z1, .inl ⟨.inl s1, fun p hn => ?_⟩⟩
      obtain ⟨W4, l4, h4, r4⟩ := hH1.mkLst q1.reverse hn
      exact hp1 W4 _ _ l4 r4 h4
    cases d with
    | tup xs =>
      obtain ⟨a, vs, z1, s1, q1⟩ := sqT_of hH1 r1
      refine ⟨a, vs, z1, .inr ⟨s1, fun p hn => ?_⟩⟩
      obtain ⟨W4, l4, h4, r4⟩ := hH1.mkTup q1.reverse hn
      exact hp1 W4 _ _ l4 r4 h4
    | lst xs => exact lists xs rfl rfl
    | obj n =>
      cases e : lstOf M1 (.obj n) with
      | none =>
        have z : revD (.obj n) M1 = none := by unfold revD; simp only [e]
        rw [z] at hp1; exact hp1.elim
      | some xs => exact lists xs e (by unfold revD; simp only [e])
    | _ => exact hp1.elim⟩
/-! ### items -/
theorem atI_rep {K : PySem.W.Frag} {W : Wd} {ds : List D} {vs : List V} {i : Int} {d : D} (r : Reps K W ds vs) (h : atI ds i = some d) : ∃ v, atI vs i = some v ∧ Rep K W d v := by
  unfold atI at h ⊢
  rw [r.length]
  obtain ⟨j, e, h2⟩ := Option.bind_eq_some_iff.mp h
  obtain ⟨v, e2, r2⟩ := r.get h2
  exact ⟨v, by rw [e]; exact e2, r2⟩
theorem ix_ok : IxR X (rD2 X cl E ixD) := IxR.imp (ix_list.or (ix_tup.or ix_str)) fun x y H Q ⟨d, e, M, W, r1, r2, hH, hp⟩ => by
  cases e with
  | int i =>
    have seqs : ∀ xs, seqOf M d = some xs → (ixD d (.int i) M = match atI xs i with | some v => some (.ok v, M) | none => none) → ∃ p vs v, x = .ref p ∧ (SqL X.K H p vs ∨ SqT X.K H p vs) ∧ atI vs i = some v ∧ Q v H := fun xs e z => by
      obtain ⟨a, vs, z1, s1, q1⟩ := seq_of hH r1 e
      rw [z] at hp
      cases e2 : atI xs i with
      | none => rw [e2] at hp; exact hp.elim
      | some v =>
        rw [e2] at hp
        obtain ⟨v', e3, r3⟩ := atI_rep q1 e2
        exact ⟨a, vs, v', z1, s1, e3, hp W H v' (.refl W) r3 hH⟩
    have fin : (∃ p vs v, x = .ref p ∧ (SqL X.K H p vs ∨ SqT X.K H p vs) ∧ atI vs i = some v ∧ Q v H) → rIxL X.K x y H Q ∨ rIxT X.K x y H Q ∨ rIxS x y H Q := fun ⟨p, vs, v, z1, s1, e3, q⟩ => by
      rcases s1 with s1 | s1
      · exact .inl ⟨p, vs, i, v, z1, r2, s1, e3, q⟩
      · exact .inr (.inl ⟨p, vs, i, v, z1, r2, s1, e3, q⟩)
    cases d with
    | str z =>
      by_cases c : z.length ≤ sizeLine
      · cases e2 : atI z.cps.toList i with
        | none =>
          have e3 : ixD (.str z) (.int i) M = none := by unfold ixD; simp only [e2]; split <;> simp_all
          rw [e3] at hp; exact hp.elim
        | some ch =>
          have e3 : ixD (.str z) (.int i) M = some (.ok (.str ⟨#[ch]⟩), M) := by unfold ixD; simp only [e2, decide_eq_true c]
          rw [e3] at hp
          exact .inr (.inr ⟨z, i, ch, r1, r2, c, e2, hp W H _ (.refl W) rfl hH⟩)
      · have e3 : ixD (.str z) (.int i) M = none := by unfold ixD; simp only [decide_eq_false c]
        rw [e3] at hp; exact hp.elim
    | tup xs => exact fin (seqs xs rfl rfl)
    | lst xs => exact fin (seqs xs rfl rfl)
    | obj n =>
      cases e : seqOf M (.obj n) with
      | none =>
        have z : ixD (.obj n) (.int i) M = none := by unfold ixD; simp only [e]
        rw [z] at hp; exact hp.elim
      | some xs => exact fin (seqs xs e (by unfold ixD; simp only [e]; try (cases atI xs i <;> rfl)))
    | _ => exact hp.elim
  | _ => cases d <;> exact hp.elim
theorem pd_ix (ha : PD X cl E a ma) (hb : PD X cl E b mb) (hs : PlainIx b := by exact fun _ _ => rfl) : PD X cl E (.Subscript a b pos) (e2 ixD ma mb) := PE.imp (pe_ix ix_ok ha hb hs) (tOp_of fun _ _ _ _ h => h)
/-! ### the small built-ins -/
theorem Reps.one_of {K : PySem.W.Frag} {W : Wd} {d : D} {vs : List V} (r : Reps K W [d] vs) : ∃ v, vs = [v] ∧ Rep K W d v := by
  obtain ⟨v, us, e, r1, r2⟩ := r
  exact ⟨v, by rw [e, show us = [] from r2], r1⟩
theorem cd_len : CallD X cl E (.builtin "len") lenD := CallR.imp call_len fun vs H Q ⟨ds, M, W, r, hH, hp⟩ => by
  match ds, r, hp with
  | [d], r, hp =>
    obtain ⟨v, rfl, r1⟩ := r.one_of
    have seqs : ∀ xs, seqOf M d = some xs → (lenD [d] M = some (.ok (.int xs.length), M)) → ∃ x n, [v] = [x] ∧ LenV X.K x H n ∧ Q (.int n) H := fun xs e z => by
      obtain ⟨a, us, z1, s1, q1⟩ := seq_of hH r1 e
      subst z1
      rw [z] at hp
      have q := hp W H _ (.refl W) rfl hH
      rcases s1 with s1 | s1
      · exact ⟨_, us.length, rfl, .inl ⟨us, s1, rfl⟩, by rw [q1.length]; exact q⟩
      · exact ⟨_, us.length, rfl, .inr ⟨us, s1, rfl⟩, by rw [q1.length]; exact q⟩
    cases d with
    | str z =>
      have hp : Post X.K cl E (Rep X.K) W ((if fits z.length = true then some (.ok (.int z.length), M) else none : Out D)) Q := hp
      by_cases c : fits z.length = true
      · rw [if_pos c] at hp
        rw [show v = _ from r1]
        exact ⟨_, z.length, rfl, ⟨fits_le c, rfl⟩, hp W H _ (.refl W) rfl hH⟩
      · rw [if_neg c] at hp; exact hp.elim
    | tup xs => exact seqs xs rfl rfl
    | lst xs => exact seqs xs rfl rfl
    | obj n =>
      cases e : seqOf M (.obj n) with
      | none =>
        have z : lenD [.obj n] M = none := by unfold lenD; simp only [e]
        rw [z] at hp; exact hp.elim
      | some xs => exact seqs xs e (by unfold lenD; simp only [e])
    | _ => exact hp.elim
  | [], _, hp => exact hp.elim
  | d :: _ :: _, _, hp => cases d <;> exact hp.elim
theorem cd_abs : CallD X cl E (.builtin "abs") absD := CallR.imp call_abs fun vs H Q ⟨ds, M, W, r, hH, hp⟩ => by
  match ds, r, hp with
  | [d], r, hp =>
    obtain ⟨v, rfl, r1⟩ := r.one_of
    cases d with
    | int i =>
      rw [show v = _ from r1]
      refine ⟨i, rfl, ?_⟩
      have e : (if i < 0 then -i else i) = (i.natAbs : Int) := by split <;> omega
      rw [e]
      exact hp W H _ (.refl W) rfl hH
    | _ => exact hp.elim
  | [], _, hp => exact hp.elim
  | d :: _ :: _, _, hp => cases d <;> exact hp.elim
theorem cd_int : CallD X cl E (.type "int") intD := CallR.imp call_int1 fun vs H Q ⟨ds, M, W, r, hH, hp⟩ => by
  match ds, r, hp with
  | [d], r, hp =>
    obtain ⟨v, rfl, r1⟩ := r.one_of
    cases d <;> first
      | exact hp.elim
      | (rw [show v = _ from r1]; exact .inl ⟨_, rfl, hp W H _ (.refl W) rfl hH⟩)
  | [], _, hp => exact hp.elim
  | d :: _ :: _, _, hp => cases d <;> exact hp.elim
theorem cd_str : CallD X cl E (.type "str") strD := CallR.imp call_str_int fun vs H Q ⟨ds, M, W, r, hH, hp⟩ => by
  match ds, r, hp with
  | [d], r, hp =>
    obtain ⟨v, rfl, r1⟩ := r.one_of
    cases d <;> first
      | exact hp.elim
      | (rename_i i
         have hp : Post X.K cl E (Rep X.K) W ((if decide (i.natAbs.log2 < 1920) = true then Mo.ret (.str (toString i)) else Mo.stop : Mo D) M) Q := hp
         by_cases c : decide (i.natAbs.log2 < 1920) = true
         · rw [if_pos c] at hp
           rw [show v = _ from r1]; exact ⟨_, rfl, of_decide_eq_true c, hp W H _ (.refl W) rfl hH⟩
         · rw [if_neg c] at hp; exact hp.elim)
  | [], _, hp => exact hp.elim
  | d :: _ :: _, _, hp => cases d <;> exact hp.elim
theorem seq1 {g : List D → Mo D} {f : List D → D} {d : D} {M : MS} {W : Wd} {H : Hp} {v : V} {Q : VK} {P : Prop} (hH : HRel X.K cl W M H) (r1 : Rep X.K W d v) (hp : Post X.K cl E (Rep X.K) W (g [d] M) Q)
    (hg : ∀ xs, seqOf M d = some xs → g [d] M = some (.ok (f xs), M)) (hn : seqOf M d = none → g [d] M = none)
    (k : ∀ xs a us, v = .ref a → (SqL X.K H a us ∨ SqT X.K H a us) → Reps X.K W xs us → seqOf M d = some xs → (∀ W' H' u, W.le W' → Rep X.K W' (f xs) u → HRel X.K cl W' M H' → Q u H') → P) : P := by
  cases e : seqOf M d with
  | none => rw [hn e] at hp; exact hp.elim
  | some xs =>
    rw [hg xs e] at hp
    obtain ⟨a, us, z1, s1, q1⟩ := seq_of hH r1 e
    exact k xs a us z1 s1 q1 e hp
theorem cd_list : CallD X cl E (.type "list") listD := CallR.imp call_list_of fun vs H Q ⟨ds, M, W, r, hH, hp⟩ => by
  match ds, r, hp with
  | [d], r, hp =>
    obtain ⟨v, rfl, r1⟩ := r.one_of
    have seqs : (∀ xs, seqOf M d = some xs → listD [d] M = some (.ok (.lst xs), M)) → (seqOf M d = none → listD [d] M = none) → ∃ p ys, [v] = [.ref p] ∧ (SqL X.K H p ys ∨ SqT X.K H p ys) ∧ ∀ l, H l = none → Q (.ref l) (upd H l (.lst ys)) := fun hg hn =>
      seq1 (f := D.lst) hH r1 hp hg hn fun xs a us z s q e k => ⟨a, us, by rw [z], s, fun l hl => by
        obtain ⟨W4, l4, h4, r4⟩ := hH.mkLst q hl
        exact k W4 _ _ l4 r4 h4⟩
    cases d with
    | scr ns =>
      obtain ⟨a, z1, s1⟩ := r1
      rw [z1]
      refine ⟨a, _, rfl, .inl (sqL_mono hH.gle s1), fun p hn => ?_⟩
      obtain ⟨W4, l4, h4, r4⟩ := hH.mkLst (Reps.ofInts ns) hn
      exact hp W4 _ _ l4 r4 h4
    | _ => exact seqs (fun xs e => by unfold listD; simp only [e]) (fun e => by unfold listD; simp only [e])
  | [], _, hp => exact hp.elim
  | d :: _ :: _, _, hp => cases d <;> exact hp.elim

theorem lst1 {P : Prop} {g : List D → Mo D} {f : List D → D} {d : D} {M : MS} {W : Wd} {H : Hp} {v : V} {Q : VK} (hH : HRel X.K cl W M H) (r1 : Rep X.K W d v) (hp : Post X.K cl E (Rep X.K) W (g [d] M) Q)
    (hg : ∀ xs, lstOf M d = some xs → g [d] M = some (.ok (f xs), M)) (hn : lstOf M d = none → g [d] M = none)
    (k : ∀ xs a us, v = .ref a → Rd H a (.lst us) → Reps X.K W xs us → (∀ W' H' u, W.le W' → Rep X.K W' (f xs) u → HRel X.K cl W' M H' → Q u H') → P) : P := by
  cases e : lstOf M d with
  | none => rw [hn e] at hp; exact hp.elim
  | some xs =>
    rw [hg xs e] at hp
    obtain ⟨a, us, z1, s1, q1⟩ := lst_of hH r1 e
    exact k xs a us z1 s1 q1 hp
theorem cd_tuple : CallD X cl E (.type "tuple") tupleD := CallR.imp call_tuple_of fun vs H Q ⟨ds, M, W, r, hH, hp⟩ => by
  match ds, r, hp with
  | [d], r, hp =>
    obtain ⟨v, rfl, r1⟩ := r.one_of
    have lists : (∀ xs, lstOf M d = some xs → tupleD [d] M = some (.ok (.tup xs), M)) → (lstOf M d = none → tupleD [d] M = none) → ∃ p ys, [v] = [.ref p] ∧ ((SqL X.K H p ys ∧ ∀ l, H l = none → Q (.ref l) (upd H l (.tup ys))) ∨ (SqT X.K H p ys ∧ Q (.ref p) H)) := fun hg hn =>
      lst1 (f := D.tup) hH r1 hp hg hn fun xs a us z s q k => ⟨a, us, by rw [z], .inl ⟨.inl s, fun l hl => by
        obtain ⟨W4, l4, h4, r4⟩ := hH.mkTup q hl
        exact k W4 _ _ l4 r4 h4⟩⟩
    cases d with
    | tup ys =>
      obtain ⟨a, us, z, s, q⟩ := sqT_of hH r1
      exact ⟨a, us, by rw [z], .inr ⟨s, z ▸ hp W H v (.refl W) r1 hH⟩⟩
    | lst xs => exact lists (fun xs e => by unfold tupleD; simp only [seqOf, e]) (fun e => nomatch e)
    | obj n => exact lists (fun xs e => by unfold tupleD; simp only [seqOf, e]) (fun e => by unfold tupleD; simp only [seqOf, e])
    | _ => exact hp.elim
  | [], _, hp => exact hp.elim
  | d :: _ :: _, _, hp => cases d <;> exact hp.elim
theorem blsOf_rep {K : PySem.W.Frag} {W : Wd} : ∀ {ds : List D} {vs : List V} {bs : List Bool}, Reps K W ds vs → blsOf ds = some bs → vs = bs.map V.bl
  | [], _, _, r, h => by cases h; exact r
  | d :: ds, _, bs, ⟨v, us, e, r, q⟩, h => by
    cases d with
    | bl b =>
      obtain ⟨cs, e2, rfl⟩ := Option.map_eq_some_iff.mp (show (blsOf ds).map (b :: ·) = some bs from h)
      rw [e, show v = _ from r, blsOf_rep q e2]; rfl
    | _ => cases h
theorem intsOf_rep {K : PySem.W.Frag} {W : Wd} : ∀ {ds : List D} {vs : List V} {bs : List Int}, Reps K W ds vs → intsOf ds = some bs → vs = bs.map V.int
  | [], _, _, r, h => by cases h; exact r
  | d :: ds, _, bs, ⟨v, us, e, r, q⟩, h => by
    cases d with
    | int b =>
      obtain ⟨cs, e2, rfl⟩ := Option.map_eq_some_iff.mp (show (intsOf ds).map (b :: ·) = some bs from h)
      rw [e, show v = _ from r, intsOf_rep q e2]; rfl
    | _ => cases h
theorem cd_all (hc : X.calm = true) : CallD X cl E (.builtin "all") allD := CallR.imp (cr_all hc) fun vs H Q ⟨ds, M, W, r, hH, hp⟩ => by
  match ds, r, hp with
  | [d], r, hp =>
    obtain ⟨v, rfl, r1⟩ := r.one_of
    have hp : Post X.K cl E (Rep X.K) W (match (lstOf M d).bind blsOf with | some bs => some (.ok (.bl (bs.all id)), M) | none => none) Q := by cases d <;> exact hp
    cases e : (lstOf M d).bind blsOf with
    | none => rw [e] at hp; exact hp.elim
    | some bs =>
      rw [e] at hp
      obtain ⟨xs, e1, e2⟩ := Option.bind_eq_some_iff.mp e
      obtain ⟨a, us, z1, s1, q1⟩ := lst_of hH r1 e1
      exact ⟨a, bs, by rw [z1], by rw [← blsOf_rep q1 e2]; exact .inl s1, hp W H _ (.refl W) rfl hH⟩
  | [], _, hp => exact hp.elim
  | d :: _ :: _, _, hp => cases d <;> exact hp.elim
theorem cd_sum (hc : X.calm = true) : CallD X cl E (.builtin "sum") sumD := CallR.imp (cr_sum hc) fun vs H Q ⟨ds, M, W, r, hH, hp⟩ => by
  match ds, r, hp with
  | [d], r, hp =>
    obtain ⟨v, rfl, r1⟩ := r.one_of
    have hp : Post X.K cl E (Rep X.K) W (match (lstOf M d).bind intsOf with | some bs => some (.ok (.int bs.sum), M) | none => none) Q := by cases d <;> exact hp
    cases e : (lstOf M d).bind intsOf with
    | none => rw [e] at hp; exact hp.elim
    | some bs =>
      rw [e] at hp
      obtain ⟨xs, e1, e2⟩ := Option.bind_eq_some_iff.mp e
      obtain ⟨a, us, z1, s1, q1⟩ := lst_of hH r1 e1
      exact ⟨a, bs, by rw [z1], by rw [← intsOf_rep q1 e2]; exact .inl s1, hp W H _ (.refl W) rfl hH⟩
  | [], _, hp => exact hp.elim
  | d :: _ :: _, _, hp => cases d <;> exact hp.elim
/-! ### isinstance(x, T), T a built-in class -/
theorem tyx_tup {K : PySem.W.Frag} {H : Hp} {a : Addr} {vs : List V} (s : SqT K H a vs) : TyX K H (.ref a) (.type "tuple") := by
  rcases s with (s | ⟨o, s⟩) | ⟨o, its, n, e, c, _⟩
  · exact .base (.tup s)
  · exact .fTuple s
  · exact .kTuple e c
theorem tyx_lst {K : PySem.W.Frag} {H : Hp} {a : Addr} {vs : List V} (s : Rd H a (.lst vs)) : TyX K H (.ref a) (.type "list") := by
  rcases s with s | ⟨o, s⟩
  · exact .base (.lst s)
  · exact .base (.frz s)
theorem isT_kit (T : Ty) : kitB "NoneType" T.nm = some false ∧ (kitB "bool" T.nm = some (match T with | .int => true | .bool => true | _ => false)) ∧ (kitB "int" T.nm = some (match T with | .int => true | _ => false)) ∧
    (kitB "str" T.nm = some (match T with | .str => true | _ => false)) ∧ (kitB "tuple" T.nm = some (match T with | .tuple => true | _ => false)) ∧ (kitB "list" T.nm = some (match T with | .list => true | _ => false)) ∧ (kitB "dict" T.nm = some false) := by
  cases T <;> decide +kernel
theorem pd_isi (T : Ty) {x : Str} {p p2 : Pos} (hg : Gl X "isinstance") (hm : X.mg "isinstance" = none) (hg2 : Gl X x) (hm2 : X.mg x = none) (hv : bootBuiltins "isinstance" = some (.builtin "isinstance")) (hv2 : bootBuiltins x = some (.type T.nm)) (he : PD X cl E e ma)
    (hn : x ≠ "__name__" := by decide) (hdb : (x == ("__debug__" : Str)) = false := by decide)
    (hs : starEach [e, .Name x p2] X.env = (false, eval e X.env) :: starEach [.Name x p2] X.env := by rfl) (hs1 : starEach [.Name x p2] X.env = (false, eval (.Name x p2) X.env) :: starEach [] X.env := by rfl) (hpl : (backTo pos (starEach [.Name x p2] X.env)).any (·.1) = false := by rfl) :
    PD X cl E (.Call (.Name "isinstance" p) [e, .Name x p2] [] pos) (e1 (isiD T) ma) :=
  PE.imp (pe_callB call_isi hg hm hv (pa_cons he (pa_cons (pe_bltn (v := .ty T.nm) hg2 hm2 hv2 rfl hn hdb) pa_nil hs1) hs) (by decide) (by decide) hs hpl) fun σ H Q ⟨ρ, M, W, hρ, hH, hp⟩ => ⟨ρ, M, W, hρ, hH, hp.seq fun d M1 W1 H1 v l1 r1 hH1 hp1 => by
    obtain ⟨k0, k1, k2, k3, k4, k5, k6⟩ := isT_kit T
    have fin : ∀ t b, TyX X.K H1 v (.type t) → kitB t T.nm = some b → Q (.bl b) H1 → rIsi X.K [v, .ty T.nm] H1 Q := fun t b ty k q => ⟨v, _, _, _, b, rfl, .ty _, ty, kit_ty k, q⟩
    cases d with
    | non => rw [show v = _ from r1]; exact ⟨_, _, _, _, _, rfl, .ty _, .base .non, kit_ty k0, by cases T <;> exact hp1 W1 H1 _ (.refl W1) rfl hH1⟩
    | bl b => rw [show v = _ from r1]; exact ⟨_, _, _, _, _, rfl, .ty _, .base (.bl _), kit_ty k1, by cases T <;> exact hp1 W1 H1 _ (.refl W1) rfl hH1⟩
    | int b => rw [show v = _ from r1]; exact ⟨_, _, _, _, _, rfl, .ty _, .base (.int _), kit_ty k2, by cases T <;> exact hp1 W1 H1 _ (.refl W1) rfl hH1⟩
    | str b => rw [show v = _ from r1]; exact ⟨_, _, _, _, _, rfl, .ty _, .base (.str _), kit_ty k3, by cases T <;> exact hp1 W1 H1 _ (.refl W1) rfl hH1⟩
    | tup xs =>
      obtain ⟨a, us, z, s, q⟩ := sqT_of hH1 r1
      rw [z]; exact ⟨_, _, _, _, _, rfl, .ty _, tyx_tup s, kit_ty k4, by cases T <;> exact hp1 W1 H1 _ (.refl W1) rfl hH1⟩
    | lst xs =>
      obtain ⟨a, us, z, s, q⟩ := lst_of hH1 r1 rfl
      rw [z]; exact ⟨_, _, _, _, _, rfl, .ty _, tyx_lst s, kit_ty k5, by cases T <;> exact hp1 W1 H1 _ (.refl W1) rfl hH1⟩
    | emp =>
      obtain ⟨a, z, s⟩ := r1
      rw [z]; exact ⟨_, _, _, _, _, rfl, .ty _, .base (.dK (hH1.gle _ _ s)), kit_ty k6, by cases T <;> exact hp1 W1 H1 _ (.refl W1) rfl hH1⟩
    | scr _ => exact hp1.elim
    | obj n =>
      cases e : lstOf M1 (.obj n) with
      | none =>
        have z : isiD T (.obj n) M1 = none := by unfold isiD; simp only [e]
        rw [z] at hp1; exact hp1.elim
      | some xs =>
        have z : isiD T (.obj n) M1 = some (.ok (.bl (isT T (.obj n))), M1) := by unfold isiD; simp only [e]
        rw [z] at hp1
        obtain ⟨a, us, z, s, q⟩ := lst_of hH1 r1 e
        rw [z]; exact ⟨_, _, _, _, _, rfl, .ty _, tyx_lst s, kit_ty k5, by cases T <;> exact hp1 W1 H1 _ (.refl W1) rfl hH1⟩⟩
/-! ### {} -/
theorem pd_emp {pos : Pos} : PD X cl E (.Dict [] [] pos) (eC .emp) := PE.imp pe_dnewK fun σ H Q ⟨ρ, M, W, hρ, hH, hp⟩ => fun d hd => hp _ _ _ (hH.frz hd).1 ⟨d, rfl, upd_same⟩ (hH.frz (o := .dK []) hd).2
/-! ### * -/
def mulD : D → D → Mo D
  | .int i, .int j => if mulOk i j = true then Mo.ret (.int (i * j)) else Mo.stop
  | .lst xs, .int k => if (decide (-(2 ^ 63) ≤ k) && decide (k < 2 ^ 63) && fits (xs.length * k.toNat)) = true then Mo.ret (.lst (List.replicate k.toNat xs).flatten) else Mo.stop
  | _, _ => Mo.stop
theorem op_repR : OpR X (binaryOp .Mult) (fun x y H Q => ∃ l k xs, x = .ref l ∧ y = .int k ∧ Rd H l (.lst xs) ∧ -(2 ^ 63) ≤ k ∧ k < 2 ^ 63 ∧ xs.length * k.toNat ≤ sizeLine ∧
  ∀ p, H p = none → Q (.ref p) (upd H p (.lst (List.replicate k.toNat xs).flatten))) := by
  intro pins s σ H x y v u Q I rx ry h
  obtain ⟨l, k, xs, rfl, rfl, hH, h1, h2, hz, q⟩ := h
  cases rx
  obtain ⟨t, rfl⟩ := ry
  obtain ⟨z, its, n, r, e⟩ := hH.ok I.hok
  have hl : xs.length = its.length := r.length
  have hlen : its.toArray.size * k.toNat ≤ sizeLine := by rw [List.size_toArray, ← hl]; exact hz
  have hcap : ¬ its.toArray.size * k.toNat > (2 ^ 63 - 1) / 8 := by
    have : (sizeLine : Nat) ≤ (2 ^ 63 - 1) / 8 := by decide
    omega
  have hfit : ¬ (!Builtin.List.listFitsIndex k) = true := by
    rw [fitsIndex_both h1 h2]
    exact Bool.false_ne_true
  have hlong : ¬ Builtin.List.listTooLong (its.toArray.size * k.toNat) = true := by
    rw [notLongL hlen]
    exact Bool.false_ne_true
  have hnew : List.foldl (fun x1 x2 => x1 ++ x2) #[] (List.replicate (if its.toArray.isEmpty = true then 0 else k.toNat) its.toArray) = (List.replicate k.toNat its).flatten.toArray := by
    have f0 : ∀ m : Nat, List.foldl (fun x1 x2 => x1 ++ x2) #[] (List.replicate m its.toArray) = (List.replicate m its).flatten.toArray := fun m => by
      have := foldl_rep its m []
      rw [List.nil_append] at this
      exact this
    rw [f0]
    cases its with
    | nil => simp
    | cons a r' => rw [if_neg (by simp)]
  refine wpAny_binaryOp_repeat_ref (T := "list") (U := "int") (by decide) ⟨_, e, rfl⟩ (fun s' => typeIs_int s' k t) noFill_list_mul F.fills_int_mul F.slot_int_rmul repeat_list F.slot_int_index.lookup
    (call_meets F.slot_int_rmul (typeIs_int s k t) F.entry_int_rmul (F.args_int_rmul_2 _ _) (int___rmul___int_list k t l its.toArray n)
      ⟨e, rfl, ⟨_, e, rfl⟩, call_meets F.slot_list_mul ⟨_, e, rfl⟩ F.entry_list_mul (F.args_list_mul_2 _ _) (AutoListH.list___mul___list_int_3 l its.toArray n k t hfit hcap hlong) ⟨e, ?_⟩⟩)
  rw [hnew]
  exact ⟨.ref _, _, I.lnew (t' := s.toks) (r.rep k.toNat) (by rw [PyProof.Rows.lm_len_rep_flat, Nat.mul_comm]; exact hz), rfl, q _ I.fresh⟩
theorem od_mul : OpD X cl E (binaryOp .Mult) mulD := OpR.imp (op_mulW.or op_repR) fun x y H Q ⟨d, e, M, W, r1, r2, hH, hp⟩ => by
  cases d with
  | int i =>
    cases e with
    | int j =>
      have hp : Post X.K cl E (Rep X.K) W ((if mulOk i j = true then Mo.ret (.int (i * j)) else Mo.stop : Mo D) M) Q := hp
      by_cases c : mulOk i j = true
      · rw [if_pos c] at hp
        exact .inl ⟨_, _, r1, r2, of_decide_eq_true (p := i.natAbs.log2 + j.natAbs.log2 < 1000000) c, hp W H _ (.refl W) rfl hH⟩
      · rw [if_neg c] at hp; exact hp.elim
    | _ => exact hp.elim
  | lst xs =>
    cases e with
    | int k =>
      have hp : Post X.K cl E (Rep X.K) W ((if (decide (-(2 ^ 63) ≤ k) && decide (k < 2 ^ 63) && fits (xs.length * k.toNat)) = true then Mo.ret (.lst (List.replicate k.toNat xs).flatten) else Mo.stop : Mo D) M) Q := hp
      by_cases c : (decide (-(2 ^ 63) ≤ k) && decide (k < 2 ^ 63) && fits (xs.length * k.toNat)) = true
      · rw [if_pos c] at hp
        have c1 := Bool.and_eq_true_iff.mp c
        have c2 := Bool.and_eq_true_iff.mp c1.1
        obtain ⟨a, us, z, s, q⟩ := lst_of hH r1 rfl
        refine .inr ⟨a, k, us, z, r2, s, of_decide_eq_true c2.1, of_decide_eq_true c2.2, by rw [q.length]; exact fits_le c1.2, fun p hn => ?_⟩
        obtain ⟨W4, l4, h4, r4⟩ := hH.mkLst (q.rep_flat k.toNat) hn
        exact hp W4 _ _ l4 r4 h4
      · rw [if_neg c] at hp; exact hp.elim
    | _ => exact hp.elim
  | _ => exact hp.elim
end
end DL

/-! DL: statements, targets, loops, comprehensions, calls of defs. -/
namespace DL
open PySem PySem.Spec PyProof.Rows L2

abbrev XS := Rho → Mo Fl
def sNext : XS := fun ρ => Mo.ret (.nx ρ)
def seqK (b : XS) : Fl → Mo Fl
  | .nx ρ => b ρ
  | .rt d => Mo.ret (.rt d)
  | .bk ρ => Mo.ret (.bk ρ)
  | .ct ρ => Mo.ret (.ct ρ)
def sSeq (a b : XS) : XS := fun ρ => Mo.bnd (a ρ) (seqK b)
def sIf (t : Rho → Mo Bool) (a b : XS) : XS := fun ρ => Mo.bnd (t ρ) fun c => if c = true then a ρ else b ρ
def sRet (m : XE) : XS := fun ρ => Mo.bnd (m ρ) fun d => Mo.ret (.rt d)
def sRetN : XS := fun _ => Mo.ret (.rt .non)
def sExpr (m : XE) : XS := fun ρ => Mo.bnd (m ρ) fun _ => Mo.ret (.nx ρ)
def sBrk : XS := fun ρ => Mo.ret (.bk ρ)
def sCnt : XS := fun ρ => Mo.ret (.ct ρ)
abbrev XG := D → Rho → Mo Rho
def gN (i : Nat) : XG := fun d ρ => Mo.ret (ρ.set i (some d))
def gA : List XG → List D → Rho → Mo Rho
  | [], [], ρ => Mo.ret ρ
  | g :: gs, d :: ds, ρ => Mo.bnd (g d ρ) fun ρ' => gA gs ds ρ'
  | _, _, _ => Mo.stop
def gT (gs : List XG) : XG := fun d ρ => match d with
  | .tup ds => if ds.length = gs.length then gA gs ds ρ else Mo.stop
  | _ => Mo.stop
def setD (o i v : D) : Mo Unit := fun M => match o, i with
  | .obj n, .int k => (match M[n]? with
    | some (.lst xs) => (match ixN xs.length k with
      | some j => some (.ok (), M.set n (.lst (xs.set j v)))
      | none => none)
    | _ => none)
  | _, _ => none
def gS (o i : XE) : XG := fun v ρ => Mo.bnd (o ρ) fun od => Mo.bnd (i ρ) fun id => Mo.bnd (setD od id v) fun _ => Mo.ret ρ
def sAsg (m : XE) (g : XG) : XS := fun ρ => Mo.bnd (m ρ) fun d => Mo.bnd (g d ρ) fun ρ' => Mo.ret (.nx ρ')
def sPar (i j : Nat) (a b : XE) : XS := fun ρ => Mo.bnd (aL [a, b] ρ) fun ds => match ds with
  | [x, y] => Mo.ret (.nx ((ρ.set i (some x)).set j (some y)))
  | _ => Mo.stop
/-- what is walked: a fixed list of things, or an object's list that must stand -/
inductive Src where
  | frz (xs : List D) | ob (n : Nat) (xs : List D) | zip (a b : Src)
def Src.xs : Src → List D
  | .frz xs => xs
  | .ob _ xs => xs
  | .zip a b => List.zipWith (fun x y => D.tup [x, y]) a.xs b.xs
def Src.ok (M : MS) : Src → Prop
  | .frz _ => True
  | .ob n xs => M[n]? = some (.lst xs)
  | .zip a b => a.ok M ∧ b.ok M
open Classical in
noncomputable def chk (s : Src) : Mo Unit := fun M => if s.ok M then some (.ok (), M) else none
noncomputable def loopF (g : XG) (b : XS) (s : Src) : List D → Rho → Mo Fl
  | [], ρ => Mo.ret (.nx ρ)
  | x :: xs, ρ => Mo.bnd (g x ρ) fun ρ1 => Mo.bnd (b ρ1) fun fl => match fl with
    | .nx ρ2 => Mo.bnd (chk s) fun _ => loopF g b s xs ρ2
    | .ct ρ2 => Mo.bnd (chk s) fun _ => loopF g b s xs ρ2
    | .bk ρ2 => Mo.ret (.nx ρ2)
    | .rt d => Mo.ret (.rt d)
noncomputable def sFor (it : Rho → Mo Src) (g : XG) (b : XS) : XS := fun ρ => Mo.bnd (it ρ) fun s => Mo.bnd (chk s) fun _ => loopF g b s s.xs ρ
def whN (t : Rho → Mo Bool) (b : XS) : Nat → Rho → Mo Fl
  | 0, _ => Mo.stop
  | n + 1, ρ => Mo.bnd (t ρ) fun c => if c = true then Mo.bnd (b ρ) fun fl => match fl with
      | .nx ρ2 => whN t b n ρ2
      | .ct ρ2 => whN t b n ρ2
      | .bk ρ2 => Mo.ret (.nx ρ2)
      | .rt d => Mo.ret (.rt d)
    else Mo.ret (.nx ρ)
open Classical in
noncomputable def sWh (t : Rho → Mo Bool) (b : XS) : XS := fun ρ M => if h : ∃ n, whN t b n ρ M ≠ none then whN t b h.choose ρ M else none
theorem whN_succ {t : Rho → Mo Bool} {b : XS} : ∀ {n : Nat} {ρ : Rho} {M : MS} {r : Except Ex Fl × MS}, whN t b n ρ M = some r → whN t b (n + 1) ρ M = some r
  | 0, _, _, _, h => nomatch h
  | n + 1, ρ, M, r, h => by
    unfold whN Mo.bnd at h ⊢
    cases e : t ρ M with
    | none => rw [e] at h; cases h
    | some q =>
      rw [e] at h
      obtain ⟨q, M1⟩ := q
      cases q with
      | error x => exact h
      | ok c =>
        cases c with
        | false => exact h
        | true =>
          simp only [if_true] at h ⊢
          cases e2 : b ρ M1 with
          | none => rw [e2] at h; cases h
          | some q2 =>
            rw [e2] at h
            obtain ⟨q2, M2⟩ := q2
            cases q2 with
            | error x => exact h
            | ok fl =>
              cases fl with
              | nx ρ2 => exact whN_succ (n := n) h
              | ct ρ2 => exact whN_succ (n := n) h
              | bk ρ2 => exact h
              | rt d => exact h
theorem whN_le {t : Rho → Mo Bool} {b : XS} {n : Nat} {ρ : Rho} {M : MS} {r : Except Ex Fl × MS} (h : whN t b n ρ M = some r) : ∀ k, whN t b (n + k) ρ M = some r
  | 0 => h
  | k + 1 => whN_succ (whN_le h k)
theorem sWh_of {t : Rho → Mo Bool} {b : XS} {n : Nat} {ρ : Rho} {M : MS} {r : Except Ex Fl × MS} (h : whN t b n ρ M = some r) : sWh t b ρ M = some r := by
  unfold sWh
  have hx : ∃ n, whN t b n ρ M ≠ none := ⟨n, by rw [h]; exact fun z => nomatch z⟩
  rw [dif_pos hx]
  have hc := hx.choose_spec
  cases e : whN t b hx.choose ρ M with
  | none => exact absurd e hc
  | some q =>
    have a := whN_le e n
    have c := whN_le h hx.choose
    rw [Nat.add_comm] at c
    rw [a] at c
    exact c
/-- one turn of a while -/
theorem sWh_step {t : Rho → Mo Bool} {b : XS} {ρ : Rho} {M : MS} {r : Except Ex Fl × MS} (h : Mo.bnd (t ρ) (fun c => if c = true then Mo.bnd (b ρ) fun fl => match fl with
      | .nx ρ2 => sWh t b ρ2
      | .ct ρ2 => sWh t b ρ2
      | .bk ρ2 => Mo.ret (.nx ρ2)
      | .rt d => Mo.ret (.rt d)
    else Mo.ret (.nx ρ)) M = some r) : sWh t b ρ M = some r := by
  have key : ∀ {ρ M r}, sWh t b ρ M = some r → ∃ n, whN t b n ρ M = some r := fun {ρ M r} h => by
    unfold sWh at h
    by_cases hx : ∃ n, whN t b n ρ M ≠ none
    · rw [dif_pos hx] at h; exact ⟨_, h⟩
    · rw [dif_neg hx] at h; cases h
  have : ∃ n, whN t b (n + 1) ρ M = some r := by
    unfold Mo.bnd at h
    unfold whN Mo.bnd
    cases e : t ρ M with
    | none => rw [e] at h; cases h
    | some q =>
      rw [e] at h
      obtain ⟨q, M1⟩ := q
      cases q with
      | error x => exact ⟨0, h⟩
      | ok c =>
        cases c with
        | false => exact ⟨0, h⟩
        | true =>
          simp only [if_true] at h ⊢
          cases e2 : b ρ M1 with
          | none => rw [e2] at h; cases h
          | some q2 =>
            rw [e2] at h
            obtain ⟨q2, M2⟩ := q2
            cases q2 with
            | error x => exact ⟨0, h⟩
            | ok fl =>
              cases fl with
              | nx ρ2 => exact key h
              | ct ρ2 => exact key h
              | bk ρ2 => exact ⟨0, h⟩
              | rt d => exact ⟨0, h⟩
  obtain ⟨n, e⟩ := this
  exact sWh_of e

/-! ### soundness: statements -/
section
variable (X : Cx) (cl : Str → Addr) (E : XK)
abbrev PDS (st : Stmt) (m : XS) : Prop := PS X st (tS X.K cl E m)
abbrev PDSs (st : List Stmt) (m : XS) : Prop := PSs X st (tS X.K cl E m)
def tG (K : PySem.W.Frag) (g : XG) : TG := fun v σ H Q => ∃ d ρ M W, Rep K W d v ∧ RhoR K W σ ρ ∧ HRel K cl W M H ∧ Post K cl E (fun W (a : Rho) (b : L2.St) => RhoR K W b a) W (g d ρ M) Q
def tGs (K : PySem.W.Frag) (gs : List XG) : TGs := fun vs σ H Q => ∃ ds ρ M W, Reps K W ds vs ∧ RhoR K W σ ρ ∧ HRel K cl W M H ∧ Post K cl E (fun W (a : Rho) (b : L2.St) => RhoR K W b a) W (gA gs ds ρ M) Q
abbrev PDG (tg : Expr) (g : XG) : Prop := PG X tg (tG cl E X.K g)
abbrev PDGs (tg : List Expr) (g : List XG) : Prop := PGs X tg (tGs cl E X.K g)
end
section
variable {K : PySem.W.Frag} {cl : Str → Addr} {E : XK}
theorem PostS.ret {W : Wd} {M : MS} {H : Hp} {f : Fl} {Dn : Ends} (h : PostS K cl E W (Mo.ret f M) Dn) (hH : HRel K cl W M H) : FlR K Dn W H f := h W H (.refl W) hH
/-- a block, and what follows -/
theorem PostS.bndS {W : Wd} {M : MS} {m : Mo Fl} {f : Fl → Mo Fl} {Dn Dn' : Ends} (h : PostS K cl E W (Mo.bnd m f M) Dn)
    (k : ∀ a M' W' H', W.le W' → HRel K cl W' M' H' → PostS K cl E W' (f a M') Dn → FlR K Dn' W' H' a) : PostS K cl E W (m M) Dn' := by
  unfold Mo.bnd at h
  cases e : m M with
  | none => rw [e] at h; exact h
  | some r =>
    rw [e] at h
    obtain ⟨r, M'⟩ := r
    cases r with
    | ok a => exact fun W' H' l hr => k a M' W' H' l hr (h.up l)
    | error x => exact h
theorem chk_ok {s : Src} {M : MS} {f : Unit → Mo Fl} {W : Wd} {Dn : Ends} (h : PostS K cl E W (Mo.bnd (chk s) f M) Dn) : s.ok M ∧ PostS K cl E W (f () M) Dn := by
  unfold Mo.bnd chk at h
  by_cases c : s.ok M
  · simp only [if_pos c] at h; exact ⟨c, h⟩
  · simp only [if_neg c] at h; exact h.elim
end
section
variable {X : Cx} {cl : Str → Addr} {E : XK} {pos : Pos} {a b c e tg : Expr} {es : List Expr} {ma mb : XE} {st : Stmt} {sts sts2 : List Stmt} {m m2 : XS}
theorem pds_nil : PDSs X cl E [] sNext := PSs.imp pss_nil fun Dn σ H ⟨ρ, M, W, hρ, hH, hp⟩ => hp.ret hH σ hρ
theorem tS_seq : ∀ Dn σ H, tS X.K cl E (sSeq m m2) Dn σ H → tSeq (tS X.K cl E m) (tS X.K cl E m2) Dn σ H := fun Dn σ H ⟨ρ, M, W, hρ, hH, hp⟩ =>
  ⟨ρ, M, W, hρ, hH, hp.bndS fun fl M1 W1 H1 l1 hH1 hp1 => by
    cases fl with
    | nx ρ1 => exact fun σ1 h1 => ⟨ρ1, M1, W1, h1, hH1, hp1⟩
    | rt d => exact hp1.ret hH1
    | bk ρ1 => exact hp1.ret hH1
    | ct ρ1 => exact hp1.ret hH1⟩
theorem pds_cons (h1 : PDS X cl E st m) (h2 : PDSs X cl E sts m2) : PDSs X cl E (st :: sts) (sSeq m m2) := PSs.imp (pss_cons h1 h2) tS_seq
theorem pds_one (h1 : PDS X cl E st m) : PDSs X cl E [st] m := pss_one h1
theorem pds_pass : PDS X cl E (.Pass pos) sNext := PS.imp ps_pass fun Dn σ H ⟨ρ, M, W, hρ, hH, hp⟩ => hp.ret hH σ hρ
theorem pds_doc {x j pos pos'} : PDS X cl E (.Expr (.Constant (.str x) j pos) pos') sNext := PS.imp ps_doc fun Dn σ H ⟨ρ, M, W, hρ, hH, hp⟩ => hp.ret hH σ hρ
theorem pds_break : PDS X cl E (.Break pos) sBrk := PS.imp ps_break fun Dn σ H ⟨ρ, M, W, hρ, hH, hp⟩ => hp.ret hH σ hρ
theorem pds_continue : PDS X cl E (.Continue pos) sCnt := PS.imp ps_continue fun Dn σ H ⟨ρ, M, W, hρ, hH, hp⟩ => hp.ret hH σ hρ
theorem pds_if {t : Rho → Mo Bool} (hc : PDT X cl E c t) (ha : PDSs X cl E sts m) (hb : PDSs X cl E sts2 m2) : PDS X cl E (.If c sts sts2 pos) (sIf t m m2) :=
  PS.imp (ps_if hc ha hb) fun Dn σ H ⟨ρ, M, W, hρ, hH, hp⟩ => ⟨ρ, M, W, hρ, hH, hp.seq fun c M1 W1 H1 v l1 r1 hH1 hp1 => by
    subst r1
    cases c with
    | true => exact iteT ⟨ρ, M1, W1, hρ.up l1, hH1, hp1⟩
    | false => exact iteF ⟨ρ, M1, W1, hρ.up l1, hH1, hp1⟩⟩
theorem pds_ret (h : PD X cl E e ma) : PDS X cl E (.Return (some e) pos) (sRet ma) := PS.imp (ps_ret h) fun Dn σ H ⟨ρ, M, W, hρ, hH, hp⟩ => ⟨ρ, M, W, hρ, hH, hp.seq fun d M1 W1 H1 v l1 r1 hH1 hp1 => hp1.ret hH1 v r1⟩
theorem pds_retN : PDS X cl E (.Return none pos) sRetN := PS.imp ps_retN fun Dn σ H ⟨ρ, M, W, hρ, hH, hp⟩ => hp.ret hH .non rfl
theorem pds_expr (h : PD X cl E e ma) (hs : swapsWith e none pos.line X.env = pure false := by rfl) : PDS X cl E (.Expr e pos) (sExpr ma) :=
  PS.imp (ps_expr h hs) fun Dn σ H ⟨ρ, M, W, hρ, hH, hp⟩ => ⟨ρ, M, W, hρ, hH, hp.seq fun d M1 W1 H1 v l1 r1 hH1 hp1 => hp1.ret hH1 σ (hρ.up l1)⟩
/-! ### targets -/
theorem pdg_name {x : Str} (i : Nat) (hN : X.N.Nodup) (hi : X.N[i]? = some x := by rfl) (hx : Loc X.env.scope x := by first | exact Or.inl rfl | exact Or.inr rfl) (hf : X.fn x = true ∨ X.env.scope.names.lookup x = some .local := by first | exact .inl rfl | exact .inr rfl) : PDG X cl E (.Name x pos) (gN i) := by
  refine ⟨fun pins s σ H v u Q I r ⟨d, ρ, M, W, rd, hρ, hH, hp⟩ => ?_⟩
  exact (pg_name (pos := pos) hN hi hx hf).run pins s σ H v u Q I r (hp W H _ (.refl W) (hρ.set rd i) hH)
theorem pdgs_nil : PDGs X cl E [] [] := by
  refine ⟨fun pins s σ H vs us Q I r ⟨ds, ρ, M, W, rd, hρ, hH, hp⟩ => ?_⟩
  cases ds with
  | nil => exact pgs_nil.run pins s σ H vs us Q I r ⟨rd, hp W H _ (.refl W) hρ hH⟩
  | cons d ds => exact hp.elim
theorem pdgs_cons {g : XG} {gs : List XG} (h1 : PDG X cl E e g) (h2 : PDGs X cl E es gs) (hs : (assignEach (e :: es) X.env).map (·.2) = assign e X.env :: (assignEach es X.env).map (·.2) := by rfl) : PDGs X cl E (e :: es) (g :: gs) := by
  refine ⟨fun pins s σ H vs us Q I r ⟨ds, ρ, M, W, rd, hρ, hH, hp⟩ => ?_⟩
  cases ds with
  | nil => exact hp.elim
  | cons d ds =>
    obtain ⟨v, r', ev, rv, rr⟩ := rd
    refine (pgs_cons h1 h2 hs).run pins s σ H vs us Q I r ⟨v, r', ev, d, ρ, M, W, rv, hρ, hH, ?_⟩
    exact Post.seq hp fun ρ1 M1 W1 H1 σ1 l1 r1 hH1 hp1 => ⟨ds, ρ1, M1, W1, rr.up l1, r1, hH1, hp1⟩
theorem assign_len {es : List Expr} {env : Env} (f : es.length = (assignEach es env).length) : (assignEach es env).length = es.length := f.symm
theorem pdg_tup {k : Nat} {gs : List XG} {n : Nat} (hc : X.calm = true) (h : PDGs X cl E es gs) (hn : (assignEach es X.env).length = n := by rfl) (hl : gs.length = n := by rfl) (hst : (assignEach es X.env).findIdx? (·.1) = none := by rfl) : PDG X cl E (.Tuple es k pos) (gT gs) := by
  refine ⟨fun pins s σ H v u Q I r ⟨d, ρ, M, W, rd, hρ, hH, hp⟩ => ?_⟩
  cases d with
  | tup ds =>
    have hp : Post X.K cl E (fun W (a : Rho) (b : L2.St) => RhoR X.K W b a) W ((if ds.length = gs.length then gA gs ds ρ else Mo.stop) M) Q := hp
    by_cases c : ds.length = gs.length
    · rw [if_pos c] at hp
      obtain ⟨a, vs, z, s1, q⟩ := sqT_of hH rd
      exact (pg_tup (k := k) (pos := pos) hc h hn hst).run pins s σ H v u Q I r ⟨a, vs, z, s1, by rw [q.length, c, hl], ds, ρ, M, W, q, hρ, hH, hp⟩
    · rw [if_neg c] at hp; exact hp.elim
  | _ => exact hp.elim
theorem setD_ok {W : Wd} {M M1 : MS} {o i v : D} (h : setD o i v M = some (.ok (), M1)) : ∃ n k xs j, o = .obj n ∧ i = .int k ∧ M[n]? = some (.lst xs) ∧ ixN xs.length k = some j ∧ M1 = M.set n (.lst (xs.set j v)) := by
  unfold setD at h
  cases o with
  | obj n =>
    cases i with
    | int k =>
      cases e : M[n]? with
      | none => simp [e] at h
      | some mo =>
        cases mo with
        | lst xs =>
          simp only [e] at h
          cases e2 : ixN xs.length k with
          | none => simp [e2] at h
          | some j =>
            simp only [e2, Option.some.injEq, Prod.mk.injEq] at h
            exact ⟨n, k, xs, j, rfl, rfl, e, e2, h.2.symm⟩
        | _ => simp [e] at h
    | _ => simp at h
  | _ => simp at h
theorem setD_err {M M1 : MS} {o i v : D} {x : Ex} : setD o i v M ≠ some (.error x, M1) := by
  unfold setD
  split
  · split
    · split <;> (intro h; cases h)
    · intro h; cases h
  · intro h; cases h
theorem HRel.setL {W : Wd} {M : MS} {H : Hp} {n : Nat} {xs : List D} {v : D} {u : V} {j : Nat} {a : Addr} (hH : HRel X.K cl W M H) (e : M[n]? = some (.lst xs)) (ea : W.ι[n]? = some a) (r : Rep X.K W v u) :
    ∃ vs, H a = some (.lst vs) ∧ Reps X.K W xs vs ∧ HRel X.K cl W (M.set n (.lst (xs.set j v))) (upd H a (.lst (vs.set j u))) := by
  obtain ⟨b, eb, _, _, vs, ho, q⟩ := hH.obj n _ e
  rw [ea] at eb
  have eb := Option.some.inj eb
  subst eb
  exact ⟨vs, ho, q, hH.set e (fun z => nomatch z) (fun z => nomatch z) ea ⟨_, rfl, q.set j r⟩⟩
theorem pdg_sub {o i : Expr} {mo mi : XE} (ho : PD X cl E o mo) (hi : PD X cl E i mi) (ha : ∀ v, assign (.Subscript o i pos) X.env v = (do
      let ov ← holding [v] (eval o X.env)
      let iv ← holding [v, ov] (eval i X.env)
      standAt pos
      holding [v, ov, iv] (setItem ov iv v)
      release [v, ov, iv] []) := by intro _; rfl) : PDG X cl E (.Subscript o i pos) (gS mo mi) := by
  refine ⟨fun pins s σ H v u Q I r ⟨d, ρ, M, W, rd, hρ, hH, hp⟩ => ?_⟩
  refine (pg_sub ho hi set_list ha).run pins s σ H v u Q I r ⟨ρ, M, W, hρ, hH, Post.seq hp fun od M1 W1 H1 ov l1 r1 hH1 hp1 => ⟨ρ, M1, W1, hρ.up l1, hH1, Post.seq hp1 fun id M2 W2 H2 iv l2 r2 hH2 hp2 => ?_⟩⟩
  unfold Mo.bnd at hp2
  cases e : setD od id d M2 with
  | none => rw [e] at hp2; exact hp2.elim
  | some q =>
    obtain ⟨q, M3⟩ := q
    cases q with
    | error x => exact absurd e setD_err
    | ok w =>
      rw [e] at hp2
      obtain ⟨n, k, xs, j, rfl, rfl, e1, e2, rfl⟩ := setD_ok (W := W2) (show setD od id d M2 = some (.ok (), M3) from e)
      obtain ⟨a, z, ea⟩ := r1.up l2
      obtain ⟨vs, h1, h2, h3⟩ := hH2.setL (j := j) e1 ea (rd.up (l1.trans l2))
      exact ⟨a, vs, k, j, z, r2, h1, by rw [h2.length]; exact e2, hp2 W2 _ σ (.refl W2) (hρ.up (l1.trans l2)) h3⟩
theorem pds_asg {g : XG} (he : PD X cl E e ma) (hg : PDG X cl E tg g) (hs : swapsWithSole [tg] e pos.line X.env = pure false := by rfl) (hw : swappedStores [tg] e X.env = pure none := by rfl) (h1 : (assignEach [tg] X.env).map (·.2) = [assign tg X.env] := by rfl) : PDS X cl E (.Assign [tg] e pos) (sAsg ma g) :=
  PS.imp (ps_asg he hg hs hw h1) fun Dn σ H ⟨ρ, M, W, hρ, hH, hp⟩ => ⟨ρ, M, W, hρ, hH, hp.seq fun d M1 W1 H1 v l1 r1 hH1 hp1 => ⟨d, ρ, M1, W1, r1, hρ.up l1, hH1, hp1.seq fun ρ2 M2 W2 H2 σ2 l2 r2 hH2 hp2 => hp2.ret hH2 σ2 r2⟩⟩
theorem pds_set {x : Str} {pos' : Pos} (i : Nat) (hN : X.N.Nodup) (he : PD X cl E e ma) (hi : X.N[i]? = some x := by rfl) (hx : Loc X.env.scope x := by first | exact Or.inl rfl | exact Or.inr rfl) (hs : swapsWith e (some (.Name x pos')) pos.line X.env = pure false := by rfl)
    (hf : X.fn x = true ∨ X.env.scope.names.lookup x = some .local := by first | exact .inl rfl | exact .inr rfl) : PDS X cl E (.Assign [.Name x pos'] e pos) (sAsg ma (gN i)) :=
  PS.imp (ps_set hN hi hx he hs hf) fun Dn σ H ⟨ρ, M, W, hρ, hH, hp⟩ => ⟨ρ, M, W, hρ, hH, hp.seq fun d M1 W1 H1 v l1 r1 hH1 hp1 => hp1.ret hH1 _ ((hρ.up l1).set r1 i)⟩
theorem pds_par {x y : Str} {px py pt : Pos} {kt k2 pt2} (i j : Nat) (hc : X.calm = true) (hN : X.N.Nodup) (ha : PD X cl E a ma) (hb : PD X cl E b mb) (hi : X.N[i]? = some x := by rfl) (hj : X.N[j]? = some y := by rfl) (hij : i ≠ j := by decide)
    (hx : X.env.scope.names.lookup x = some .local := by rfl) (hy : X.env.scope.names.lookup y = some .local := by rfl)
    (hw : swappedStores [.Tuple [.Name x px, .Name y py] kt pt] (.Tuple [a, b] k2 pt2) X.env = pure (some [x, y]) := by rfl)
    (hs : swapsWithSole [.Tuple [.Name x px, .Name y py] kt pt] (.Tuple [a, b] k2 pt2) pos.line X.env = pure false := by rfl)
    (hs1 : starEach [a, b] X.env = (false, eval a X.env) :: starEach [b] X.env := by rfl) (hs2 : starEach [b] X.env = (false, eval b X.env) :: starEach [] X.env := by rfl) :
    PDS X cl E (.Assign [.Tuple [.Name x px, .Name y py] kt pt] (.Tuple [a, b] k2 pt2) pos) (sPar i j ma mb) :=
  PS.imp (ps_par hc hN hi hj hij hx hy (pda_cons ha (pda_cons hb pda_nil hs2) hs1) hw hs) fun Dn σ H ⟨ρ, M, W, hρ, hH, hp⟩ => ⟨ρ, M, W, hρ, hH, hp.seq fun ds M1 W1 H1 vs l1 r1 hH1 hp1 => by
    match ds, r1, hp1 with
    | [d, e], r1, hp1 =>
      obtain ⟨v, us, z, rv, w, ws, z2, rw', z3⟩ := r1
      rw [z, z2, show ws = [] from z3]
      exact ⟨v, w, rfl, hp1.ret hH1 _ (((hρ.up l1).set rv i).set rw' j)⟩
    | [], _, hp1 => exact hp1.elim
    | [_], _, hp1 => exact hp1.elim
    | _ :: _ :: _ :: _, _, hp1 => exact hp1.elim⟩
/-! ### what is walked -/
variable (X cl) in
structure SrcOk (s : Src) (J : It) (W0 : Wd) : Prop where
  stop : ∀ W M H, W0.le W → HRel X.K cl W M H → s.ok M → J.stop s.xs.length H
  go : ∀ i x W M H, W0.le W → HRel X.K cl W M H → s.ok M → s.xs[i]? = some x → J.go i H ∧ ∀ v H', J.yld i H v H' → ∃ W', W.le W' ∧ Rep X.K W' x v ∧ HRel X.K cl W' M H'
variable (X cl E) in
def tI (m : Rho → Mo Src) : TI := fun σ H R => ∃ ρ M W, RhoR X.K W σ ρ ∧ HRel X.K cl W M H ∧ Post X.K cl E (fun W s J => SrcOk X cl s J W) W (m ρ M) R
variable (X cl E) in
abbrev PDI (tg it : Expr) (m : Rho → Mo Src) : Prop := PI X tg it (tI X cl E m)
theorem PI.imp {tg it : Expr} {w w' : TI} (h : PI X tg it w) (k : ∀ σ H R, w' σ H R → w σ H R) : PI X tg it w' := ⟨fun pins s σ H R I q => h.run pins s σ H R I (k _ _ _ q)⟩
theorem pds_for {it : Expr} {g : XG} {mi : Rho → Mo Src} (hp : PassesOwn (model X.prog X.w) X.A X.env X.xe) (hc : X.calm = true) (hi : PDI X cl E tg it mi) (hg : PDG X cl E tg g) (hb : PDSs X cl E sts m)
    (hs : ∀ x, foldedSetIterable it X.env x = pure x := by intro _; rfl) : PDS X cl E (.For tg it sts [] pos) (sFor mi g m) :=
  PS.imp (ps_for hp hc hi hg hb hs) fun Dn σ H ⟨ρ, M, W, hρ, hH, hp⟩ => ⟨ρ, M, W, hρ, hH, hp.seq fun s M1 W1 H1 J l1 so hH1 hp1 => by
    obtain ⟨ok1, hp2⟩ := chk_ok hp1
    refine ⟨fun i n σ H => n = s.xs.length - i ∧ i ≤ s.xs.length ∧ ∃ ρ M W, W1.le W ∧ RhoR X.K W σ ρ ∧ HRel X.K cl W M H ∧ s.ok M ∧ PostS X.K cl E W (loopF g m s (s.xs.drop i) ρ M) Dn, ⟨_, rfl, Nat.zero_le _, ρ, M1, W1, .refl W1, hρ.up l1, hH1, ok1, hp2⟩, ?_⟩
    rintro i n σ H ⟨rfl, hi, ρ, M, W, l, hρ, hH, ok, hp⟩
    by_cases hlt : i < s.xs.length
    · obtain ⟨go, yl⟩ := so.go i s.xs[i] W M H l hH ok (by simp [hlt])
      refine .inr ⟨go, fun σ H => ∃ ρ M W, W1.le W ∧ RhoR X.K W σ ρ ∧ HRel X.K cl W M H ∧ s.ok M ∧ PostS X.K cl E W (loopF g m s (s.xs.drop (i + 1)) ρ M) Dn, fun σ' H' p' => ⟨_, ?_, rfl, hlt, p'⟩, fun v H' y => ?_⟩
      · omega
      · obtain ⟨W', l', rx, hH'⟩ := yl v H' y
        rw [List.drop_eq_getElem_cons hlt] at hp
        refine ⟨s.xs[i], ρ, M, W', rx, hρ.up l', hH', (hp.up l').seq fun ρ2 M2 W2 H2 σ2 l2 r2 hH2 hp2 => ⟨ρ2, M2, W2, r2, hH2, hp2.bndS fun fl M3 W3 H3 l3 hH3 hp3 => ?_⟩⟩
        have le3 := l.trans (l'.trans (l2.trans l3))
        cases fl with
        | nx ρ3 => exact fun σ3 h3 => let ⟨ok3, q3⟩ := chk_ok hp3; ⟨ρ3, M3, W3, le3, h3, hH3, ok3, q3⟩
        | ct ρ3 => exact fun σ3 h3 => let ⟨ok3, q3⟩ := chk_ok hp3; ⟨ρ3, M3, W3, le3, h3, hH3, ok3, q3⟩
        | bk ρ3 => exact fun σ3 h3 => hp3.ret hH3 σ3 h3
        | rt d => exact hp3.ret hH3
    · have e : i = s.xs.length := by omega
      subst e
      rw [List.drop_length] at hp
      exact .inl ⟨so.stop W M H l hH ok, hp.ret hH σ hρ⟩⟩
theorem pds_while {t : Rho → Mo Bool} (hp : PassesOwn (model X.prog X.w) X.A X.env X.xe) (hc : PDT X cl E c t) (hb : PDSs X cl E sts m) : PDS X cl E (.While c sts [] pos) (sWh t m) :=
  PS.imp (ps_while hp hc hb) fun Dn σ H ⟨ρ, M, W, hρ, hH, hp⟩ => by
    have hx : ∃ n, PostS X.K cl E W (whN t m n ρ M) Dn := by
      unfold sWh at hp
      by_cases h : ∃ n, whN t m n ρ M ≠ none
      · rw [dif_pos h] at hp; exact ⟨_, hp⟩
      · rw [dif_neg h] at hp; exact hp.elim
    obtain ⟨n, hn⟩ := hx
    refine ⟨fun n σ H => ∃ ρ M W, RhoR X.K W σ ρ ∧ HRel X.K cl W M H ∧ PostS X.K cl E W (whN t m n ρ M) Dn, ⟨n, ρ, M, W, hρ, hH, hn⟩, ?_⟩
    rintro n σ H ⟨ρ, M, W, hρ, hH, hp⟩
    cases n with
    | zero => exact hp.elim
    | succ n =>
      refine ⟨ρ, M, W, hρ, hH, hp.seq fun c M1 W1 H1 v l1 r1 hH1 hp1 => ?_⟩
      subst r1
      cases c with
      | false => exact iteF (hp1.ret hH1 σ (hρ.up l1))
      | true =>
        refine iteT ⟨fun σ H => ∃ ρ M W, RhoR X.K W σ ρ ∧ HRel X.K cl W M H ∧ PostS X.K cl E W (whN t m n ρ M) Dn, fun σ' H' p => ⟨n, Nat.lt_succ_self n, p⟩, ρ, M1, W1, hρ.up l1, hH1, PostS.bndS hp1 fun fl M2 W2 H2 l2 hH2 hp2 => ?_⟩
        cases fl with
        | nx ρ2 => exact fun σ2 h2 => ⟨ρ2, M2, W2, h2, hH2, hp2⟩
        | ct ρ2 => exact fun σ2 h2 => ⟨ρ2, M2, W2, h2, hH2, hp2⟩
        | bk ρ2 => exact fun σ2 h2 => hp2.ret hH2 σ2 h2
        | rt d => exact hp2.ret hH2
end
end DL

/-! DL: what is walked, comprehensions, methods of lists, defs and their calls. -/
namespace DL
open PySem PySem.Spec PyProof.Rows L2

/-! ### sources -/
def srcD (d : D) : Mo Src := match d with
  | .tup xs => Mo.ret (.frz xs)
  | .lst xs => Mo.ret (.frz xs)
  | .obj n => fun M => match M[n]? with
    | some (.lst xs) => some (.ok (.ob n xs), M)
    | _ => none
  | .str z => Mo.ret (.frz (z.cps.toList.map fun c => .str ⟨#[c]⟩))
  | .scr ns => Mo.ret (.frz (ns.map D.int))
  | _ => Mo.stop
def iS (m : XE) : Rho → Mo Src := fun ρ => Mo.bnd (m ρ) srcD
def rngL (lo hi : Int) : List D := (List.range (hi - lo).toNat).map fun (i : Nat) => .int (lo + (i : Int))
def small62 (i : Int) : Bool := decide (-(2 ^ 62) ≤ i) && decide (i < 2 ^ 62)
def rngD : List D → Mo Src
  | [.int j] => if small62 j = true then Mo.ret (.frz (rngL 0 j)) else Mo.stop
  | [.int i, .int j] => if (small62 i && small62 j) = true then Mo.ret (.frz (rngL i j)) else Mo.stop
  | _ => Mo.stop
def iR (ms : List XE) : Rho → Mo Src := fun ρ => Mo.bnd (aL ms ρ) rngD
section
variable {X : Cx} {cl : Str → Addr} {E : XK} {pos : Pos} {a b c e tg : Expr} {es : List Expr} {ma mb : XE}
theorem srcok_list {W : Wd} {a : Addr} {vs : List V} {ds : List D} (s : Rd W.G a (.lst vs)) (q : Reps X.K W ds vs) : SrcOk X cl (.frz ds) (Itl X.K a) W where
  stop := fun W' M' H' l hH _ => ⟨vs, .inl (rd_mono hH.gle (rd_mono l.g s)), by rw [q.length]; exact Nat.le_refl _⟩
  go := fun i x W' M' H' l hH _ hx => by
    obtain ⟨v, hv, rv⟩ := q.get hx
    have s' : SqL X.K H' a vs := .inl (rd_mono hH.gle (rd_mono l.g s))
    refine ⟨⟨vs, v, s', hv⟩, fun u H2 y => ?_⟩
    obtain ⟨e, y⟩ := y
    subst e
    have := y vs s'
    rw [hv] at this
    cases this
    exact ⟨W', .refl W', rv.up l, hH⟩
theorem srcok_scr {W : Wd} {a : Addr} {ns : List Int} (s : SqL X.K W.G a (ns.map V.int)) : SrcOk X cl (.frz (ns.map D.int)) (Itl X.K a) W where
  stop := fun W' M' H' l hH _ => ⟨_, sqL_mono hH.gle (sqL_mono l.g s), by
    show (ns.map V.int).length ≤ (ns.map D.int).length
    simp⟩
  go := fun i x W' M' H' l hH _ hx => by
    obtain ⟨v, hv, rv⟩ := (Reps.ofInts (K := X.K) (W := W) ns).get hx
    have s' : SqL X.K H' a (ns.map V.int) := sqL_mono hH.gle (sqL_mono l.g s)
    refine ⟨⟨_, v, s', hv⟩, fun u H2 y => ?_⟩
    obtain ⟨e, y⟩ := y
    subst e
    have := y _ s'
    rw [hv] at this
    cases this
    exact ⟨W', .refl W', rv.up l, hH⟩
theorem srcok_tup {W : Wd} {a : Addr} {vs : List V} {ds : List D} (s : SqT X.K W.G a vs) (q : Reps X.K W ds vs) : SrcOk X cl (.frz ds) (Itt X.K a) W where
  stop := fun W' M' H' l hH _ => ⟨vs, sqT_mono hH.gle (sqT_mono l.g s), by rw [q.length]; exact Nat.le_refl _⟩
  go := fun i x W' M' H' l hH _ hx => by
    obtain ⟨v, hv, rv⟩ := q.get hx
    have s' : SqT X.K H' a vs := sqT_mono hH.gle (sqT_mono l.g s)
    refine ⟨⟨vs, v, s', hv⟩, fun u H2 y => ?_⟩
    obtain ⟨e, y⟩ := y
    subst e
    have := y vs s'
    rw [hv] at this
    cases this
    exact ⟨W', .refl W', rv.up l, hH⟩
theorem srcok_ob {W : Wd} {a : Addr} {n : Nat} {ds : List D} (ea : W.ι[n]? = some a) : SrcOk X cl (.ob n ds) (Itl X.K a) W := by
  have look : ∀ {W' : Wd} {M' : MS} {H' : Hp}, W.le W' → HRel X.K cl W' M' H' → (Src.ob n ds).ok M' → ∃ vs, SqL X.K H' a vs ∧ Reps X.K W' ds vs := fun {W' M' H'} l hH ok => by
    obtain ⟨b, eb, _, _, vs, ho, q⟩ := hH.obj n _ ok
    rw [l.i _ _ ea] at eb
    have eb := Option.some.inj eb
    subst eb
    exact ⟨vs, .inl (Rd.of ho), q⟩
  refine ⟨fun W' M' H' l hH ok => ?_, fun i x W' M' H' l hH ok hx => ?_⟩
  · obtain ⟨vs, s, q⟩ := look l hH ok
    exact ⟨vs, s, by rw [q.length]; exact Nat.le_refl _⟩
  · obtain ⟨vs, s, q⟩ := look l hH ok
    obtain ⟨v, hv, rv⟩ := q.get hx
    refine ⟨⟨vs, v, s, hv⟩, fun u H2 y => ?_⟩
    obtain ⟨e, y⟩ := y
    subst e
    have := y vs s
    rw [hv] at this
    cases this
    exact ⟨W', .refl W', rv, hH⟩
theorem srcok_str {W : Wd} {z : Str} : SrcOk X cl (.frz (z.cps.toList.map fun c => .str ⟨#[c]⟩)) (Its z) W where
  stop := fun W' M' H' l hH _ => by
    show z.cps.size ≤ (z.cps.toList.map fun c => D.str ⟨#[c]⟩).length
    simp
  go := fun i x W' M' H' l hH _ hx => by
    have hx : (z.cps.toList.map fun c => D.str ⟨#[c]⟩)[i]? = some x := hx
    rw [List.getElem?_map] at hx
    obtain ⟨ch, hc, rfl⟩ := Option.map_eq_some_iff.mp hx
    have hc' : z.cps[i]? = some ch := by simpa using hc
    refine ⟨(Array.getElem?_eq_some_iff.mp hc').1, fun u H2 y => ?_⟩
    obtain ⟨e, ch2, e2, e3⟩ := y
    subst e
    rw [hc'] at e2
    cases e2
    exact ⟨W', .refl W', e3, hH⟩
theorem srcok_rng {W : Wd} {lo : Int} {n : Nat} : SrcOk X cl (.frz ((List.range n).map fun (i : Nat) => .int (lo + (i : Int)))) (Itr lo n) W where
  stop := fun W' M' H' l hH _ => by
    show n ≤ ((List.range n).map fun (i : Nat) => D.int (lo + (i : Int))).length
    simp
  go := fun i x W' M' H' l hH _ hx => by
    have hx : ((List.range n).map fun (i : Nat) => D.int (lo + (i : Int)))[i]? = some x := hx
    rw [List.getElem?_map] at hx
    obtain ⟨k, hk, rfl⟩ := Option.map_eq_some_iff.mp hx
    have hk2 := List.getElem?_eq_some_iff.mp hk
    have hlt : i < n := by simpa using hk2.1
    have hki : k = i := by
      have := hk2.2
      rw [List.getElem_range] at this
      exact this.symm
    subst hki
    refine ⟨hlt, fun u H2 y => ?_⟩
    obtain ⟨e, y⟩ := y
    subst e
    exact ⟨W', .refl W', y, hH⟩
/-- a list, a tuple or a text, walked -/
theorem pi_seq {te : TE} (hl : PE X e te) : PI X tg e (fun σ H R => te σ H fun x H1 => (∃ a, x = .ref a ∧ (∃ xs, SqL X.K H1 a xs) ∧ R (Itl X.K a) H1) ∨ (∃ a, x = .ref a ∧ (∃ xs, SqT X.K H1 a xs) ∧ R (Itt X.K a) H1) ∨ ∃ z, x = .str z ∧ R (Its z) H1) := by
  refine ⟨fun pins s σ H R I h => ?_⟩
  refine thn (hl.run pins s σ H _ I h) fun v s1 ⟨x, H1, I1, r1, q1⟩ => ?_
  rcases q1 with ⟨a, e, ⟨xs, hq⟩, q⟩ | ⟨a, e, ⟨xs, hq⟩, q⟩ | ⟨z, e, q⟩
  · subst e
    cases r1
    obtain ⟨its, rv, p, hz⟩ := I1.list hq
    refine wpAny_pyIter_list p.isList ?_
    refine ⟨s1.heap.objs.size, [s1.heap.objs.size], _, _, H1, rfl, I1.kept (t' := s1.toks) fun b o e => Heap.get?_push_of_some _ e, turn_list a _, ⟨_, Heap.get?_push_size _ rfl, rfl, rfl⟩, fun b hb => ?_, q⟩
    have e : b = s1.heap.objs.size := by simpa using hb
    subst e
    exact I1.fpOk (Nat.le_refl _) (I1.hok.fresh (Nat.le_refl _))
  · subst e
    cases r1
    obtain ⟨its, rv, p, hz⟩ := I1.tuple hq
    refine wpAny_pyIter_tuple (show s1.heap.IsTuple a its.toArray from p) ?_
    refine ⟨s1.heap.objs.size, [s1.heap.objs.size], _, _, H1, rfl, I1.kept (t' := s1.toks) fun b o e => Heap.get?_push_of_some _ e, turn_tuple a _, ⟨_, Heap.get?_push_size _ rfl, rfl, rfl⟩, fun b hb => ?_, q⟩
    have e : b = s1.heap.objs.size := by simpa using hb
    subst e
    exact I1.fpOk (Nat.le_refl _) (I1.hok.fresh (Nat.le_refl _))
  · subst e
    obtain ⟨t, rfl⟩ := r1
    cases ha : z.cps.all (· < 128)
    · exact wpAny_pyIter_wide ha (pi_one (tk := s1.toks) I1 _ (turn_str _ z t "str_iterator" (.inr rfl)) ⟨_, Heap.get?_push_size _ rfl, rfl, rfl⟩ q)
    · exact wpAny_pyIter_ascii ha (pi_one (tk := s1.toks) I1 _ (turn_str _ z t "str_ascii_iterator" (.inl rfl)) ⟨_, Heap.get?_push_size _ rfl, rfl, rfl⟩ q)
theorem pdi_seq (he : PD X cl E e ma) : PDI X cl E tg e (iS ma) := PI.imp (pi_seq he) fun σ H R ⟨ρ, M, W, hρ, hH, hp⟩ => ⟨ρ, M, W, hρ, hH, hp.seq fun d M1 W1 H1 v l1 r1 hH1 hp1 => by
  cases d with
  | tup xs =>
    obtain ⟨a, vs, z, s, q⟩ := r1
    exact .inr (.inl ⟨a, z, ⟨vs, sqT_mono hH1.gle s⟩, hp1 W1 H1 _ (.refl W1) (srcok_tup s q) hH1⟩)
  | lst xs =>
    obtain ⟨a, vs, z, s, q⟩ := r1
    exact .inl ⟨a, z, ⟨vs, .inl (rd_mono hH1.gle s)⟩, hp1 W1 H1 _ (.refl W1) (srcok_list s q) hH1⟩
  | scr ns =>
    obtain ⟨a, z, s⟩ := r1
    exact .inl ⟨a, z, ⟨_, sqL_mono hH1.gle s⟩, hp1 W1 H1 _ (.refl W1) (srcok_scr s) hH1⟩
  | str z => exact .inr (.inr ⟨z, r1, hp1 W1 H1 _ (.refl W1) srcok_str hH1⟩)
  | obj n =>
    have hp1 : Post X.K cl E (fun W s J => SrcOk X cl s J W) W1 ((match M1[n]? with | some (.lst xs) => some (.ok (.ob n xs), M1) | _ => none : Out Src)) R := hp1
    obtain ⟨a, z, ea⟩ := r1
    cases e : M1[n]? with
    | none => simp only [e] at hp1; exact hp1.elim
    | some mo =>
      simp only [e] at hp1
      cases mo with
      | lst xs =>
        obtain ⟨b, eb, _, _, vs, ho, q⟩ := hH1.obj n _ e
        rw [ea] at eb
        have eb := Option.some.inj eb
        subst eb
        exact .inl ⟨a, z, ⟨vs, .inl (Rd.of ho)⟩, hp1 W1 H1 _ (.refl W1) (srcok_ob ea) hH1⟩
      | _ => exact hp1.elim
  | _ => exact hp1.elim⟩
theorem small62_ok {i : Int} (h : small62 i = true) : -(2 ^ 62) ≤ i ∧ i < 2 ^ 62 := ⟨of_decide_eq_true (Bool.and_eq_true_iff.mp h).1, of_decide_eq_true (Bool.and_eq_true_iff.mp h).2⟩
theorem pdi_rng1 {p : Pos} (hg : Gl X "range") (hm : X.mg "range" = none) (ha : PD X cl E a ma) (hs : starEach [a] X.env = [(false, eval a X.env)] := by rfl) : PDI X cl E tg (.Call (.Name "range" p) [a] [] pos) (iR [ma]) :=
  PI.imp (pi_range1 hg hm (pda_cons ha pda_nil hs) hs) fun σ H R ⟨ρ, M, W, hρ, hH, hp⟩ => ⟨ρ, M, W, hρ, hH, Post.seqL hp fun ds M1 W1 H1 vs l1 r1 hl hH1 hp1 => by
    match ds, r1, hl, hp1 with
    | [d], r1, _, hp1 =>
      obtain ⟨v, rfl, rv⟩ := r1.one_of
      cases d with
      | int j =>
        have hp1 : Post X.K cl E (fun W s J => SrcOk X cl s J W) W1 ((if small62 j = true then Mo.ret (.frz (rngL 0 j)) else Mo.stop : Mo Src) M1) R := hp1
        by_cases c : small62 j = true
        · rw [if_pos c] at hp1
          obtain ⟨c1, c2⟩ := small62_ok c
          refine ⟨j, by rw [show v = _ from rv], c1, c2, hp1 W1 H1 _ (.refl W1) ?_ hH1⟩
          unfold rngL
          rw [show (j - 0).toNat = j.toNat by rw [Int.sub_zero]]
          exact srcok_rng
        · rw [if_neg c] at hp1; exact hp1.elim
      | _ => exact hp1.elim⟩
theorem pdi_rng2 {p : Pos} (hg : Gl X "range") (hm : X.mg "range" = none) (ha : PD X cl E a ma) (hb : PD X cl E b mb) (hs : starEach [a, b] X.env = [(false, eval a X.env), (false, eval b X.env)] := by rfl) (hs2 : starEach [b] X.env = [(false, eval b X.env)] := by rfl) : PDI X cl E tg (.Call (.Name "range" p) [a, b] [] pos) (iR [ma, mb]) :=
  PI.imp (pi_range2 hg hm (pda_cons ha (pda_cons hb pda_nil hs2) (by rw [hs, hs2])) hs hs2) fun σ H R ⟨ρ, M, W, hρ, hH, hp⟩ => ⟨ρ, M, W, hρ, hH, Post.seqL hp fun ds M1 W1 H1 vs l1 r1 hl hH1 hp1 => by
    match ds, r1, hl, hp1 with
    | [d, d2], r1, _, hp1 =>
      obtain ⟨v, us, e1, rv, r2⟩ := r1
      obtain ⟨v2, rfl, rv2⟩ := r2.one_of
      cases d with
      | int i =>
        cases d2 with
        | int j =>
          have hp1 : Post X.K cl E (fun W s J => SrcOk X cl s J W) W1 ((if (small62 i && small62 j) = true then Mo.ret (.frz (rngL i j)) else Mo.stop : Mo Src) M1) R := hp1
          by_cases c : (small62 i && small62 j) = true
          · rw [if_pos c] at hp1
            obtain ⟨c0, c1⟩ := Bool.and_eq_true_iff.mp c
            obtain ⟨c2, c3⟩ := small62_ok c0
            obtain ⟨c4, c5⟩ := small62_ok c1
            exact ⟨i, j, by rw [e1, show v = _ from rv, show v2 = _ from rv2], ⟨c2, c3, c4, c5⟩, hp1 W1 H1 _ (.refl W1) srcok_rng hH1⟩
          · rw [if_neg c] at hp1; exact hp1.elim
        | _ => exact hp1.elim
      | _ => cases d2 <;> exact hp1.elim⟩
/-! ### comprehensions -/
inductive CT where
  | one (i : Nat) | tup (is : List Nat)
def setAll {α : Type} : List Nat → List α → List (Option α) → List (Option α)
  | i :: is, d :: ds, ρ => setAll is ds (ρ.set i (some d))
  | _, _, ρ => ρ
def CT.put : CT → D → Rho → Mo Rho
  | .one i, d, ρ => Mo.ret (ρ.set i (some d))
  | .tup is, .tup ds, ρ => if ds.length = is.length then Mo.ret (setAll is ds ρ) else Mo.stop
  | .tup _, _, _ => Mo.stop
def CT.own : CT → List Nat
  | .one i => [i]
  | .tup is => is
def wipeR (ρ : Rho) : List Nat → Rho
  | [] => ρ
  | v :: vs => (wipeR ρ vs).set v none
noncomputable def loopC (g : CT) (t : Rho → Mo Bool) (e : XE) (s : Src) (ρ0 : Rho) : List D → Mo (List D)
  | [] => Mo.ret []
  | x :: xs => Mo.bnd (g.put x ρ0) fun ρ1 => Mo.bnd (t ρ1) fun c => if c = true then Mo.bnd (e ρ1) fun y => Mo.bnd (chk s) fun _ => Mo.bnd (loopC g t e s ρ0 xs) fun ys => Mo.ret (y :: ys) else Mo.bnd (chk s) fun _ => loopC g t e s ρ0 xs
/-- no exception leaves -/
def noex {α : Type} (m : Mo α) : Mo α := fun M => match m M with
  | some (.error _, _) => none
  | r => r
def tAll : Rho → Mo Bool := fun _ => Mo.ret true
noncomputable def eLc (it : Rho → Mo Src) (g : CT) (t : Rho → Mo Bool) (e : XE) (own : List Nat) : XE := fun ρ => Mo.bnd (it ρ) fun s => Mo.bnd (chk s) fun _ => Mo.bnd (noex (if fits s.xs.length = true then loopC g t e s (wipeR ρ own) s.xs else Mo.stop)) fun ys => Mo.ret (.lst ys)
def gCT (K : PySem.W.Frag) : CT → TG
  | .one i => gName i
  | .tup is => gTup K is.length (is.foldr (fun i g => gCons (gName i) g) gNil)
theorem wipe_rho {W : Wd} {σ : L2.St} {ρ : Rho} (h : RhoR X.K W σ ρ) : ∀ vs, RhoR X.K W (wipe σ vs) (wipeR ρ vs)
  | [] => h
  | v :: vs => by
    have ih := wipe_rho h vs
    unfold wipe wipeR
    refine ⟨by simp [ih.1], fun i d e => ?_⟩
    by_cases hi : v = i
    · subst hi
      by_cases hv : v < (wipeR ρ vs).length
      · rw [List.getElem?_set_self hv] at e; cases e
      · rw [List.getElem?_eq_none (by simpa using hv)] at e; cases e
    · rw [List.getElem?_set_ne hi] at e ⊢
      exact ih.2 i d e
theorem wipe_set {σ : L2.St} {v : Option V} {i : Nat} : ∀ {vs : List Nat}, i ∈ vs → wipe (σ.set i v) vs = wipe σ vs
  | u :: vs, h => by
    unfold wipe
    by_cases hu : i ∈ vs
    · rw [wipe_set hu]
    · have e : i = u := by
        rcases List.mem_cons.mp h with e | e
        · exact e
        · exact absurd e hu
      subst e
      have key : ∀ (us : List Nat) (σ : L2.St), i ∉ us → wipe (σ.set i v) us = (wipe σ us).set i v := by
        intro us
        induction us with
        | nil => intro σ _; rfl
        | cons w us ih =>
          intro σ hw
          have h1 : i ≠ w := fun z => hw (by rw [z]; exact List.mem_cons_self)
          have h2 : i ∉ us := fun z => hw (List.mem_cons_of_mem _ z)
          unfold wipe
          rw [ih σ h2, List.set_comm _ _ h1]
      rw [key vs σ hu, List.set_set]
/-- the target of a comprehension -/
theorem gCT_of {own : List Nat} {g : CT} (hown : ∀ i ∈ g.own, i ∈ own) {d : D} {v : V} {σ : L2.St} {ρ : Rho} {M : MS} {W : Wd} {H : Hp} {Q : L2.St → Hp → Prop} (rd : Rep X.K W d v) (hρ : RhoR X.K W σ ρ) (hH : HRel X.K cl W M H) {ρ1 : Rho} {M1 : MS} (hp : g.put d ρ M = some (.ok ρ1, M1))
    (k : ∀ σ1, wipe σ1 own = wipe σ own → RhoR X.K W σ1 ρ1 → M1 = M → Q σ1 H) : gCT X.K g v σ H Q := by
  cases g with
  | one i =>
    cases hp
    exact k _ (wipe_set (hown i List.mem_cons_self)) (hρ.set rd i) rfl
  | tup is =>
    cases d with
    | tup ds =>
      have hp : (if ds.length = is.length then Mo.ret (setAll is ds ρ) else Mo.stop : Mo Rho) M = some (.ok ρ1, M1) := hp
      by_cases c : ds.length = is.length
      · rw [if_pos c] at hp
        cases hp
        obtain ⟨a, vs, z, s, q⟩ := sqT_of hH rd
        refine ⟨a, vs, z, s, by rw [q.length]; exact c, ?_⟩
        clear s z rd
        have go : ∀ (is : List Nat) (ds : List D) (vs : List V) (σ' : L2.St) (ρ : Rho), (∀ i ∈ is, i ∈ own) → ds.length = is.length → Reps X.K W ds vs → RhoR X.K W σ' ρ → wipe σ' own = wipe σ own → (∀ σ1, wipe σ1 own = wipe σ own → RhoR X.K W σ1 (setAll is ds ρ) → Q σ1 H) →
            (is.foldr (fun i g => gCons (gName i) g) gNil : TGs) vs σ' H Q := by
          intro is
          induction is with
          | nil =>
            intro ds vs σ' ρ _ hl q hρ hw k
            cases ds with
            | nil => exact ⟨q, k _ hw hρ⟩
            | cons d ds => cases hl
          | cons i is ih =>
            intro ds vs σ' ρ ho hl q hρ hw k
            cases ds with
            | nil => cases hl
            | cons d ds =>
              obtain ⟨v, us, e, rv, ru⟩ := q
              refine ⟨v, us, e, ih ds us _ _ (fun j hj => ho j (List.mem_cons_of_mem _ hj)) (by simpa using hl) ru (hρ.set rv i) ?_ k⟩
              rw [wipe_set (ho i List.mem_cons_self)]; exact hw
        exact go is ds vs σ ρ hown c q hρ rfl fun σ1 h1 h2 => k σ1 h1 h2 rfl
      · rw [if_neg c] at hp; cases hp
    | _ => cases hp
theorem put_same {g : CT} {d : D} {ρ ρ1 : Rho} {M M1 : MS} (h : g.put d ρ M = some (.ok ρ1, M1)) : M1 = M := by
  cases g with
  | one i => cases h; rfl
  | tup is =>
    cases d with
    | tup ds =>
      have h : (if ds.length = is.length then Mo.ret (setAll is ds ρ) else Mo.stop : Mo Rho) M = some (.ok ρ1, M1) := h
      by_cases c : ds.length = is.length
      · rw [if_pos c] at h; cases h; rfl
      · rw [if_neg c] at h; cases h
    | _ => cases h
theorem noex_ok {α : Type} {m : Mo α} {M : MS} {r : Except Ex α × MS} (h : noex m M = some r) : ∃ a M1, r = (.ok a, M1) ∧ m M = some (.ok a, M1) := by
  unfold noex at h
  cases e : m M with
  | none => rw [e] at h; cases h
  | some q =>
    rw [e] at h
    obtain ⟨q, M1⟩ := q
    cases q with
    | error x => cases h
    | ok a => cases h; exact ⟨a, M1, rfl, rfl⟩
/-- what is wanted of a piece that comes through -/
theorem Post.sure {α β : Type} {R : Wd → α → β → Prop} {W : Wd} {m : Mo α} {M M1 : MS} {a : α} {Q : β → Hp → Prop} {E : XK} (e : m M = some (.ok a, M1)) (k : ∀ W' H' v, W.le W' → R W' a v → HRel X.K cl W' M1 H' → Q v H') : Post X.K cl E R W (m M) Q := by
  rw [e]; exact k
theorem noex_post {α : Type} {W : Wd} {m : Mo α} {M : MS} {E : XK} {γ δ : Type} {S : Wd → γ → δ → Prop} {f : α → Mo γ} {Q2 : δ → Hp → Prop} (h : Post X.K cl E S W (Mo.bnd (noex m) f M) Q2) : ∃ a M1, m M = some (.ok a, M1) ∧ Post X.K cl E S W (f a M1) Q2 := by
  unfold Mo.bnd at h
  cases e : noex m M with
  | none => rw [e] at h; exact h.elim
  | some r =>
    obtain ⟨a, M1, rfl, e2⟩ := noex_ok e
    rw [e] at h
    exact ⟨a, M1, e2, h⟩
theorem chk_ok2 {γ δ : Type} {S : Wd → γ → δ → Prop} {s : Src} {M : MS} {f : Unit → Mo γ} {W : Wd} {Q : δ → Hp → Prop} (h : Post X.K cl E S W (Mo.bnd (chk s) f M) Q) : s.ok M ∧ Post X.K cl E S W (f () M) Q := by
  unfold Mo.bnd chk at h
  by_cases c : s.ok M
  · simp only [if_pos c] at h; exact ⟨c, h⟩
  · simp only [if_neg c] at h; exact h.elim
theorem chk_eq {α : Type} {s : Src} {M : MS} {f : Unit → Mo α} {r : Except Ex α × MS} (h : Mo.bnd (chk s) f M = some r) : s.ok M ∧ f () M = some r := by
  unfold Mo.bnd chk at h
  by_cases c : s.ok M
  · simp only [if_pos c] at h; exact ⟨c, h⟩
  · simp only [if_neg c] at h; cases h
/-- the block's turns: D stands aside and grows -/
theorem lc_turns {J : It} {s : Src} {g : CT} {t : Rho → Mo Bool} {e : XE} {own : List Nat} {σ : L2.St} {ρ : Rho} {W1 : Wd} {M1 M3 : MS} {H1 : Hp} {Q : VK} {ys : List D} {Dd : Addr} (hown : ∀ i ∈ g.own, i ∈ own) (hρ : RhoR X.K W1 σ ρ) (so : SrcOk X cl s J W1) (hH1 : HRel X.K cl W1 M1 H1) (ok1 : s.ok M1) (hn : H1 Dd = none) (hz : s.xs.length ≤ sizeLine)
    (hr : loopC g t e s (wipeR ρ own) s.xs M1 = some (.ok ys, M3)) (fin : ∀ W' H', W1.le W' → Rep X.K W' (.lst ys) (.ref Dd) → HRel X.K cl W' M3 H' → Q (.ref Dd) H') :
    ∃ W : Nat → Nat → Hp → Prop, (∃ m, W 0 m (upd H1 Dd (.lst []))) ∧ ∀ i m H, W i m H → (J.stop i H ∧ Q (.ref Dd) H) ∨ (J.go i H ∧ ∃ Nx : Hp → Prop, (∀ H', Nx H' → ∃ m', m' < m ∧ W (i + 1) m' H') ∧ ∀ x H', J.yld i H x H' → gCT X.K g x (wipe σ own) H' fun σ2 H2 => wipe σ2 own = wipe σ own ∧ tT X.K cl E0 t σ2 H2 fun b H3 =>
      if b = true then tD X.K cl E0 e σ2 H3 fun y H4 => ∃ acc, H4 Dd = some (.lst acc) ∧ acc.length < sizeLine ∧ Nx (upd H4 Dd (.lst (acc ++ [y]))) else Nx H3) := by
  refine ⟨fun i m H => m = s.xs.length - i ∧ i ≤ s.xs.length ∧ ∃ W M as vs zs, W1.le W ∧ W.F Dd = some (.lst vs) ∧ Reps X.K W as vs ∧ vs.length ≤ i ∧ HRel X.K cl W M H ∧ s.ok M ∧ loopC g t e s (wipeR ρ own) (s.xs.drop i) M = some (.ok zs, M3) ∧ as ++ zs = ys, ⟨_, rfl, Nat.zero_le _, ?_⟩, ?_⟩
  · obtain ⟨l, h⟩ := hH1.hold (o := .lst []) hn
    exact ⟨_, M1, [], [], ys, l, upd_same, rfl, Nat.le_refl _, h, ok1, by rw [List.drop_zero]; exact hr, rfl⟩
  · rintro i m H ⟨rfl, hi, W, M, as, vs, zs, l, hF, hA, hlen, hH, ok, hr, hcat⟩
    by_cases hlt : i < s.xs.length
    · obtain ⟨go, yl⟩ := so.go i s.xs[i] W M H l hH ok (by simp [hlt])
      refine .inr ⟨go, fun H => ∃ W M as vs zs, W1.le W ∧ W.F Dd = some (.lst vs) ∧ Reps X.K W as vs ∧ vs.length ≤ i + 1 ∧ HRel X.K cl W M H ∧ s.ok M ∧ loopC g t e s (wipeR ρ own) (s.xs.drop (i + 1)) M = some (.ok zs, M3) ∧ as ++ zs = ys, fun H' p => ⟨_, ?_, rfl, hlt, p⟩, fun v H' y => ?_⟩
      · omega
      obtain ⟨W', l', rx, hH'⟩ := yl v H' y
      rw [List.drop_eq_getElem_cons hlt] at hr
      obtain ⟨ρ1, Ma, hput, hr1⟩ := Mo.bnd_ok (show Mo.bnd (g.put s.xs[i] (wipeR ρ own)) _ M = _ from hr)
      have eM := put_same hput
      subst eM
      refine gCT_of hown rx (wipe_rho (hρ.up (l.trans l')) own) hH' hput fun σ1 hw h1 _ => ⟨by
        rw [hw]
        clear hw h1 hput hr1
        have : ∀ us : List Nat, wipe (wipe σ own) own = wipe σ own := by
          intro _
          have idem : ∀ (us ws : List Nat) (σ : L2.St), (∀ u ∈ us, u ∈ ws) → wipe (wipe σ us) ws = wipe σ ws := by
            intro us
            induction us with
            | nil => intro ws σ _; rfl
            | cons u us ih =>
              intro ws σ h
              show wipe ((wipe σ us).set u none) ws = _
              rw [wipe_set (h u List.mem_cons_self)]
              exact ih ws σ fun x hx => h x (List.mem_cons_of_mem _ hx)
          exact idem own own σ fun _ h => h
        exact this [], ρ1, _, W', h1, hH', ?_⟩
      obtain ⟨c, Mb, ht, hr2⟩ := Mo.bnd_ok hr1
      refine Post.sure ht fun W2 H2 c' l2 ec hH2 => ?_
      subst ec
      cases c with
      | false =>
        refine iteF ?_
        simp only [Bool.false_eq_true, if_false] at hr2
        obtain ⟨ok2, hr3⟩ := chk_eq hr2
        exact ⟨W2, Mb, as, vs, zs, l.trans (l'.trans l2), l2.f _ _ (l'.f _ _ hF), hA.up (l'.trans l2), Nat.le_succ_of_le hlen, hH2, ok2, hr3, hcat⟩
      | true =>
        refine iteT ?_
        simp only [if_true] at hr2
        obtain ⟨y, Mc, he, hr3⟩ := Mo.bnd_ok hr2
        refine ⟨ρ1, Mb, W2, h1.up l2, hH2, Post.sure he fun W3 H3 u l3 ru hH3 => ?_⟩
        obtain ⟨ok3, hr4⟩ := chk_eq hr3
        obtain ⟨zs2, Md, hr5, hr6⟩ := Mo.bnd_ok hr4
        cases hr6
        have hF3 := l3.f _ _ (l2.f _ _ (l'.f _ _ hF))
        refine ⟨vs, (hH3.fle _ _ hF3).1, by omega, ?_⟩
        have hh := hH3.held (o := .lst (vs ++ [u])) hF3
        have hnD : W1.F Dd = none := hH1.fnone hn
        refine ⟨_, Mc, as ++ [y], vs ++ [u], zs2, ?_, upd_same, ?_, by simp; omega, hh, ok3, hr5, by rw [List.append_assoc]; exact hcat⟩
        · have lt := l.trans (l'.trans (l2.trans l3))
          exact ⟨lt.i, lt.g, fun b o eb => by
            show upd W3.F Dd _ b = some o
            rw [upd_ne (ne_of_none eb hnD)]
            exact lt.f _ _ eb⟩
        · have base : Reps X.K W3 (as ++ [y]) (vs ++ [u]) := (hA.up (l'.trans (l2.trans l3))).append (Reps.one ru)
          exact Reps.upv (W := W3) (W' := ⟨W3.ι, W3.G, _⟩) base ⟨fun _ _ z => z, fun _ _ z => z⟩
    · have e : i = s.xs.length := by omega
      subst e
      rw [List.drop_length] at hr
      cases hr
      rw [List.append_nil] at hcat
      subst hcat
      refine .inl ⟨so.stop W _ H l hH ok, ?_⟩
      -- D is frozen
      obtain ⟨hDH, hDG⟩ := hH.fle _ _ hF
      have hnD : W1.F Dd = none := hH1.fnone hn
      refine fin ⟨W.ι, upd W.G Dd (.lst vs), fun b => if b = Dd then none else W.F b⟩ H ⟨l.i, fun b o eb => ?_, fun b o eb => ?_⟩ ⟨Dd, vs, rfl, Rd.of upd_same, ?_⟩ ⟨fun b o eb => ?_, hH.len, fun n mo en => ?_, hH.nd, fun b o eb => ?_⟩
      · show upd W.G Dd _ b = some o
        rw [upd_ne (ne_of_none (l.g _ _ eb) hDG)]
        exact l.g _ _ eb
      · show (if b = Dd then none else W.F b) = some o
        rw [if_neg (ne_of_none eb hnD)]
        exact l.f _ _ eb
      · exact Reps.upv (W := W) (W' := ⟨W.ι, upd W.G Dd (.lst vs), _⟩) hA ⟨fun _ _ z => z, fun b o eb => by
          show upd W.G Dd _ b = some o
          rw [upd_ne (ne_of_none eb hDG)]; exact eb⟩
      · have eb : upd W.G Dd (.lst vs) b = some o := eb
        by_cases q : b = Dd
        · subst q
          rw [upd_same] at eb
          rw [← eb]; exact hDH
        · rw [upd_ne q] at eb
          exact hH.gle _ _ eb
      · obtain ⟨b, e1, e2, e3, r⟩ := hH.obj n mo en
        have ne : b ≠ Dd := fun z => by subst z; rw [e3] at hF; cases hF
        refine ⟨b, e1, fun z => ?_, ?_, ?_⟩
        · show upd W.G Dd _ b = none
          rw [upd_ne ne]; exact e2 z
        · show (if b = Dd then none else W.F b) = none
          rw [if_neg ne]; exact e3
        · exact RepMO.upv (W := W) (W' := ⟨W.ι, upd W.G Dd (.lst vs), _⟩) ⟨fun _ _ z => z, fun b o eb => by
            show upd W.G Dd _ b = some o
            rw [upd_ne (ne_of_none eb hDG)]; exact eb⟩ r
      · have eb : (if b = Dd then none else W.F b) = some o := eb
        by_cases q : b = Dd
        · rw [if_pos q] at eb; cases eb
        · rw [if_neg q] at eb
          obtain ⟨h1, h2⟩ := hH.fle _ _ eb
          refine ⟨h1, ?_⟩
          show upd W.G Dd _ b = none
          rw [upd_ne q]; exact h2
theorem tLc_of {it : Rho → Mo Src} {g : CT} {t : Rho → Mo Bool} {e : XE} {own : List Nat} (hown : ∀ i ∈ g.own, i ∈ own) : ∀ σ H Q, tD X.K cl E (eLc it g t e own) σ H Q → tLc (tI X cl E it) (gCT X.K g) (tT X.K cl E0 t) (tD X.K cl E0 e) own σ H Q :=
  fun σ H Q ⟨ρ, M, W, hρ, hH, hp⟩ => ⟨ρ, M, W, hρ, hH, hp.seq fun s M1 W1 H1 J l1 so hH1 hp1 => by
    obtain ⟨ok1, hp2⟩ := chk_ok2 hp1
    obtain ⟨ys, M3, e3, hp3⟩ := noex_post (X := X) (cl := cl) (E := E) hp2
    by_cases c : fits s.xs.length = true
    · rw [if_pos c] at e3
      exact fun Dd hn => lc_turns hown (hρ.up l1) so hH1 ok1 hn (fits_le c) e3 fun W' H' l r h => hp3 W' H' _ l r h
    · rw [if_neg c] at e3; cases e3⟩
theorem pd_lc {elt iter : Expr} {ifs : List Expr} {scope : Scope} {own : List (Str × Nat)} {g : CT} {t : Rho → Mo Bool} {mi : Rho → Mo Src} {m : XE} (hc : X.calm = true) (hN : X.N.Nodup) (hi : PDI X cl E tg iter mi) (ok : blkC X.N X.env.scope scope own = true)
    (hg : ∀ (s : Shared) (H : Hp) (C : Addr) (cl : List (Str × Addr)) (fp : List Addr), PG (X.blk s H scope (compEnvC scope cl C X.env) fp) tg (gCT X.K g)) (ht : ∀ (s : Shared) (H : Hp) (C : Addr) (cc : List (Str × Addr)) (fp : List Addr), PTs (X.blk s H scope (compEnvC scope cc C X.env) fp) ifs (tT X.K cl E0 t))
    (he : ∀ (s : Shared) (H : Hp) (C : Addr) (cc : List (Str × Addr)) (fp : List Addr), PD (X.blk s H scope (compEnvC scope cc C X.env) fp) cl E0 elt m) (hown : ∀ i ∈ g.own, i ∈ own.map (·.2) := by decide) (hs : ∀ x, foldedSetIterable iter X.env x = pure x := by intro _; rfl) :
    PD X cl E (.ListComp elt [⟨tg, iter, ifs, 0⟩] scope pos) (eLc mi g t m (own.map (·.2))) := PE.imp (pe_lc hc hN hi (blkOk_by ok) hg ht he hs) (tLc_of hown)
theorem pds_setLc {y : Str} {py spos : Pos} {elt iter : Expr} {ifs : List Expr} {scope : Scope} {own : List (Str × Nat)} {g : CT} {t : Rho → Mo Bool} {mi : Rho → Mo Src} {m : XE} (i : Nat) (hc : X.calm = true) (hN : X.N.Nodup) (hi : PDI X cl E tg iter mi) (ok : blkC X.N X.env.scope scope own = true)
    (hg : ∀ (s : Shared) (H : Hp) (C : Addr) (cl : List (Str × Addr)) (fp : List Addr), PG (X.blk s H scope (compEnvC scope cl C X.env) fp) tg (gCT X.K g)) (ht : ∀ (s : Shared) (H : Hp) (C : Addr) (cc : List (Str × Addr)) (fp : List Addr), PTs (X.blk s H scope (compEnvC scope cc C X.env) fp) ifs (tT X.K cl E0 t))
    (he : ∀ (s : Shared) (H : Hp) (C : Addr) (cc : List (Str × Addr)) (fp : List Addr), PD (X.blk s H scope (compEnvC scope cc C X.env) fp) cl E0 elt m) (hown : ∀ i ∈ g.own, i ∈ own.map (·.2) := by decide) (hs : ∀ x, foldedSetIterable iter X.env x = pure x := by intro _; rfl)
    (hy : X.N[i]? = some y := by rfl) (hyl : X.env.scope.names.lookup y = some .local := by rfl) (hsw : swapsWith (.ListComp elt [⟨tg, iter, ifs, 0⟩] scope pos) (some (.Name y py)) spos.line X.env = pure true := by exact sw_true rfl rfl rfl (by decide +kernel)) :
    PDS X cl E (.Assign [.Name y py] (.ListComp elt [⟨tg, iter, ifs, 0⟩] scope pos) spos) (sAsg (eLc mi g t m (own.map (·.2))) (gN i)) :=
  PS.imp (ps_setLc hc hN hy hyl hsw hi (blkOk_by ok) hg ht he hs) fun Dn σ H ⟨ρ, M, W, hρ, hH, hp⟩ => tLc_of hown σ H _ ⟨ρ, M, W, hρ, hH, hp.seq fun d M1 W1 H1 v l1 r1 hH1 hp1 => hp1.ret hH1 _ ((hρ.up l1).set r1 i)⟩
theorem pts_all {s : Shared} {H : Hp} {scope : Scope} {env : Env} {fp : List Addr} : PTs (X.blk s H scope env fp) [] (tT X.K cl E0 tAll) := ⟨fun pins s σ H Q I ⟨ρ, M, W, hρ, hH, hp⟩ => pts_nil.run pins s σ H Q I (hp W H true (.refl W) rfl hH)⟩
end
end DL

/-! DL: defs: what they make of plain values, their calls. -/
namespace DL
open PySem PySem.Spec PyProof.Rows L2

abbrev Fn := List D → Mo D
/-- exceptions of the kind E may leave here -/
abbrev Tk (X : Cx) (E : XK) : Prop := Takes X fun c d _ H => E c d H
abbrev Ow (X : Cx) : Prop := PassesOwn (model X.prog X.w) X.A X.env X.xe
def spD (K : PySem.W.Frag) (cl : Str → Addr) (n : Nat) (F : Fn) : Sp := fun vs H Q E => vs.length = n ∧ ∃ ds M W, Reps K W ds vs ∧ HRel K cl W M H ∧ Post K cl E (Rep K) W (F ds M) Q
def fnK : Fl → Mo D
  | .nx _ => Mo.ret .non
  | .rt d => Mo.ret d
  | _ => Mo.stop
def fnB (n : Nat) (body : XS) : Fn := fun ds => Mo.bnd (body (ds.map some ++ List.replicate (n - ds.length) none)) fnK
section
variable {P : Program} {w : World} {K : PySem.W.Frag} {mg : Str → Option Value} {base : Heap} {cl : Str → Addr}
/-- a def of the program and what it makes of plain values -/
structure DefOk (P : Program) (w : World) (K : PySem.W.Frag) (mg : Str → Option Value) (base : Heap) (cl : Str → Addr) (x : Str) (k n : Nat) (F : Fn) : Prop where
  ex : ∃ f fd ps, ps.length = n ∧ FnOk P w K mg base (L2.CX P w) k f fd ps (spD K cl n F) ∧ mg x = some (.ref f) ∧ PySem.W.keepIn K (.ref f) = true ∧ Binds K fd ps []
theorem DefOk.mono {x : Str} {j k n : Nat} {F : Fn} (h : DefOk P w K mg base cl x j n F) (l : j ≤ k) : DefOk P w K mg base cl x k n F := by
  obtain ⟨f, fd, ps, a, b, c⟩ := h.ex
  exact ⟨f, fd, ps, a, b.mono l, c⟩
theorem spD.imp {n : Nat} {F F' : Fn} (h : ∀ ds M r, F' ds M = some r → F ds M = some r) : ∀ vs H Q E, spD K cl n F' vs H Q E → spD K cl n F vs H Q E := fun vs H Q E ⟨a, ds, M, W, r, hH, hp⟩ => ⟨a, ds, M, W, r, hH, by
  cases e : F' ds M with
  | none => rw [e] at hp; exact hp.elim
  | some q => rw [e] at hp; rw [h _ _ _ e]; exact hp⟩
/-- a def is what a function says that it makes, where that says something -/
theorem DefOk.imp {x : Str} {k n : Nat} {F F' : Fn} (h : DefOk P w K mg base cl x k n F) (i : ∀ ds M r, F' ds M = some r → F ds M = some r) : DefOk P w K mg base cl x k n F' := by
  obtain ⟨f, fd, ps, a, b, c⟩ := h.ex
  exact ⟨f, fd, ps, a, b.imp (spD.imp i), c⟩
theorem start_rho {W : Wd} {ds : List D} {vs : List V} {N : List Str} (r : Reps K W ds vs) : RhoR K W (L2.start N vs) (ds.map some ++ List.replicate (N.length - ds.length) none) := by
  refine ⟨by unfold L2.start; simp [r.length], fun i d e => ?_⟩
  unfold L2.start
  by_cases hi : i < ds.length
  · rw [List.getElem?_append_left (by simpa using hi), List.getElem?_map] at e
    obtain ⟨d', e1, e2⟩ := Option.map_eq_some_iff.mp e
    cases e2
    obtain ⟨v, e3, rv⟩ := r.get e1
    exact ⟨v, by rw [List.getElem?_append_left (by simpa [r.length] using hi), List.getElem?_map, e3]; rfl, rv⟩
  · rw [List.getElem?_append_right (by simpa using hi), List.getElem?_replicate] at e
    split at e <;> cases e
/-- THE RULE for a def: its body -/
theorem okDf {x qual : Str} {params : Arguments} {body : List Stmt} {scope : Scope} {f : Addr} {fd : FuncData} {N ps : List Str} {k : Nat} {m : XS} (Fd : FunD K x qual params body scope [] [] f fd) (S : FnScope N ps scope) 
    (h : ∀ (cdv : Value) (A : Around) (outer : List Env) (s : Shared) (H : Hp) (E : XK), Room k (A.deeper (envOfC qual scope s.heap.objs.size f cdv)) →
      Tk (cxOf (L2.CX P w) P w K mg base N qual scope f cdv A outer s H E) E → Ow (cxOf (L2.CX P w) P w K mg base N qual scope f cdv A outer s H E) → PDSs (cxOf (L2.CX P w) P w K mg base N qual scope f cdv A outer s H E) cl E body m) : FnOk P w K mg base (L2.CX P w) (k + 1) f fd ps (spD K cl ps.length (fnB N.length m)) := by
  refine Fd.ok S (fun vs H Q E h => h.1) fun cdv A outer s H vs Q E hr ⟨hl, ds, M, W, r, hH, hp⟩ => ⟨_, h cdv A outer s H E hr (takes_of (X := cxOf (L2.CX P w) P w K mg base N qual scope f cdv A outer s H E) rfl rfl rfl rfl) (passes_of (X := cxOf (L2.CX P w) P w K mg base N qual scope f cdv A outer s H E) rfl), _, M, W, start_rho (N := N) r, hH, ?_⟩
  unfold fnB at hp
  unfold Mo.bnd at hp
  cases e : m (ds.map some ++ List.replicate (N.length - ds.length) none) M with
  | none => rw [e] at hp; exact hp.elim
  | some q =>
    rw [e] at hp
    obtain ⟨q, M1⟩ := q
    cases q with
    | error x => exact hp
    | ok fl =>
      intro W1 H1 l1 hH1
      have hp1 : Post K cl E (Rep K) W1 (fnK fl M1) Q := Post.up hp l1
      cases fl with
      | nx ρ => exact fun σ _ => hp1 W1 H1 _ (.refl W1) rfl hH1
      | rt d => exact fun v rv => hp1 W1 H1 v (.refl W1) rv hH1
      | bk ρ => exact hp1.elim
      | ct ρ => exact hp1.elim
/-- THE RULE for a def: its body -/
theorem okD {x qual : Str} {params : Arguments} {body : List Stmt} {scope : Scope} {f : Addr} {fd : FuncData} {N ps : List Str} {k : Nat} {m : XS} (Fd : FunD K x qual params body scope [] [] f fd) (S : FnScope N ps scope) (gm : mg x = some (.ref f))
    (hb : ∀ (kV doc pm : Value) (an : Option Addr) (cdv ct : Value) (us : List Value), us.length = ps.length → bindArgs (PySem.W.fnOf x qual params body scope .none kV doc pm an cdv ct) ⟨us, []⟩ = pure (ps.zip us))
    (h : ∀ (cdv : Value) (A : Around) (outer : List Env) (s : Shared) (H : Hp) (E : XK), Room k (A.deeper (envOfC qual scope s.heap.objs.size f cdv)) →
      Tk (cxOf (L2.CX P w) P w K mg base N qual scope f cdv A outer s H E) E → Ow (cxOf (L2.CX P w) P w K mg base N qual scope f cdv A outer s H E) → PDSs (cxOf (L2.CX P w) P w K mg base N qual scope f cdv A outer s H E) cl E body m) : DefOk P w K mg base cl x (k + 1) ps.length (fnB N.length m) :=
  ⟨f, fd, ps, rfl, okDf Fd S h, gm, Fd.kp, Fd.bindsN hb⟩
end
section
variable {X : Cx} {cl : Str → Addr} {E : XK} {pos : Pos} {a b c e tg : Expr} {es : List Expr} {ma mb : XE}
theorem pd_call {x : Str} {p : Pos} {k n j : Nat} {F : Fn} {ms : List XE} (G : DefOk X.prog X.w X.K X.mg X.base cl x k n F) (hr : Room j X.A) (tk : Tk X E) (ha : PDA X cl E (e :: es) (aL ms)) (hk : k ≤ j := by omega) (hn : ms.length = n := by rfl) (hg : Gl X x := by rfl) (hdb : (x == ("__debug__" : Str)) = false := by decide) (he : starEach (e :: es) X.env = (false, eval e X.env) :: starEach es X.env := by rfl) (hpl : (backTo pos (starEach es X.env)).any (·.1) = false := by rfl) :
    PD X cl E (.Call (.Name x p) (e :: es) [] pos) (eB F ms) := by
  obtain ⟨f, fd, ps, hl, ok, gm, kp, bi⟩ := G.ex
  exact PE.imp (pe_call ok (hr.mono hk) hg gm kp bi .nil (passes_call tk fun _ _ _ _ h => h) ha hdb he hpl) fun σ H Q ⟨ρ, M, W, hρ, hH, hp⟩ => ⟨ρ, M, W, hρ, hH, Post.seqL hp fun ds M1 W1 H1 vs l1 r1 hz hH1 hp1 => ⟨by
    rw [List.append_nil, r1.length, hz, hn], ds, M1, W1, by rw [List.append_nil]; exact r1, hH1, hp1⟩⟩
theorem pd_call0 {x : Str} {p : Pos} {k j : Nat} {F : Fn} (G : DefOk X.prog X.w X.K X.mg X.base cl x k 0 F) (hr : Room j X.A) (tk : Tk X E) (hk : k ≤ j := by omega) (hg : Gl X x := by rfl) (hdb : (x == ("__debug__" : Str)) = false := by decide) :
    PD X cl E (.Call (.Name x p) [] [] pos) (eB F []) := by
  obtain ⟨f, fd, ps, hl, ok, gm, kp, bi⟩ := G.ex
  exact PE.imp (pe_call0 ok (hr.mono hk) hg gm kp bi .nil (passes_call tk fun _ _ _ _ h => h) hdb) fun σ H Q ⟨ρ, M, W, hρ, hH, hp⟩ => ⟨rfl, [], M, W, rfl, hH, hp⟩
/-! ### methods of lists -/
def appD (o v : D) : Mo D := fun M => match o with
  | .obj n => (match M[n]? with
    | some (.lst xs) => if fits (xs.length + 1) = true then some (.ok .non, M.set n (.lst (xs ++ [v]))) else none
    | _ => none)
  | _ => none
theorem HRel.putL {W : Wd} {M : MS} {H : Hp} {n : Nat} {xs ys : List D} {us : List V} {a : Addr} (hH : HRel X.K cl W M H) (e : M[n]? = some (.lst xs)) (ea : W.ι[n]? = some a) (r : Reps X.K W ys us) : HRel X.K cl W (M.set n (.lst ys)) (upd H a (.lst us)) :=
  hH.set e (fun z => nomatch z) (fun z => nomatch z) ea ⟨_, rfl, r⟩
theorem HRel.getL {W : Wd} {M : MS} {H : Hp} {n : Nat} {xs : List D} {a : Addr} (hH : HRel X.K cl W M H) (e : M[n]? = some (.lst xs)) (ea : W.ι[n]? = some a) : ∃ vs, H a = some (.lst vs) ∧ Reps X.K W xs vs := by
  obtain ⟨b, eb, _, _, vs, ho, q⟩ := hH.obj n _ e
  rw [ea] at eb
  have eb := Option.some.inj eb
  subst eb
  exact ⟨vs, ho, q⟩
/-- a method of a built-in type: what stands ahead of the dot is looked at first -/
def guardB (p : MS → Bool) : Mo Unit := fun M => if p M = true then some (.ok (), M) else none
def eM (pre : MS → D → Bool) (g : D → List D → Mo D) (mo : XE) (ms : List XE) : XE := fun ρ => Mo.bnd (mo ρ) fun o => Mo.bnd (guardB fun M => pre M o) fun _ => Mo.bnd (aL ms ρ) fun ds => g o ds
variable (X cl E) in
structure MtOk (T : String) (r : V → List V → Hp → VK → Prop) (pre : MS → D → Bool) (g : D → List D → Mo D) : Prop where
  ty : ∀ o M W H v, pre M o = true → Rep X.K W o v → HRel X.K cl W M H → tyV X.K T v H
  run : ∀ o ds M W H v vs Q, Rep X.K W o v → Reps X.K W ds vs → HRel X.K cl W M H → Post X.K cl E (Rep X.K) W (g o ds M) Q → r v vs H Q
theorem guardB_ok {α β γ : Type} {S : Wd → α → β → Prop} {p : MS → Bool} {M : MS} {f : Unit → Mo α} {W : Wd} {Q : β → Hp → Prop} (h : Post X.K cl E S W (Mo.bnd (guardB p) f M) Q) : p M = true ∧ Post X.K cl E S W (f () M) Q := by
  unfold Mo.bnd guardB at h
  by_cases c : p M = true
  · simp only [if_pos c] at h; exact ⟨c, h⟩
  · simp only [if_neg c] at h; exact h.elim
theorem pd_bm {ex : Expr} {T : String} {r : V → List V → Hp → VK → Prop} {pre : MS → D → Bool} {g : D → List D → Mo D} {mo : XE} {ms : List XE} (k : MtOk X cl E T r pre g) (h : PE X ex (tBM X.K T r (tD X.K cl E mo) (tA X.K cl E (aL ms)))) : PD X cl E ex (eM pre g mo ms) :=
  PE.imp h fun σ H Q ⟨ρ, M, W, hρ, hH, hp⟩ => ⟨ρ, M, W, hρ, hH, hp.seq fun o M1 W1 H1 x l1 r1 hH1 hp1 => by
    obtain ⟨c, hp2⟩ := guardB_ok (γ := Unit) hp1
    exact ⟨k.ty o M1 W1 H1 x c r1 hH1, ρ, M1, W1, hρ.up l1, hH1, hp2.seq fun ds M2 W2 H2 vs l2 r2 hH2 hp2 => k.run o ds M2 W2 H2 x vs Q (r1.up l2) r2 hH2 hp2⟩⟩
theorem pd_bm0 {ex : Expr} {T : String} {r : V → List V → Hp → VK → Prop} {pre : MS → D → Bool} {g : D → List D → Mo D} {mo : XE} (k : MtOk X cl E T r pre g) (h : PE X ex (tBM0 X.K T r (tD X.K cl E mo))) : PD X cl E ex (eM pre g mo []) :=
  PE.imp h fun σ H Q ⟨ρ, M, W, hρ, hH, hp⟩ => ⟨ρ, M, W, hρ, hH, hp.seq fun o M1 W1 H1 x l1 r1 hH1 hp1 => by
    obtain ⟨c, hp2⟩ := guardB_ok (γ := Unit) hp1
    exact ⟨k.ty o M1 W1 H1 x c r1 hH1, k.run o [] M1 W1 H1 x [] Q r1 rfl hH1 hp2⟩⟩
def isObL (M : MS) (d : D) : Bool := match d with
  | .obj n => (match M[n]? with
    | some (.lst _) => true
    | _ => false)
  | _ => false
theorem isObL_ok {M : MS} {d : D} (h : isObL M d = true) : ∃ n xs, d = .obj n ∧ M[n]? = some (.lst xs) := by
  cases d with
  | obj n =>
    unfold isObL at h
    cases e : M[n]? with
    | none => simp [e] at h
    | some mo =>
      cases mo with
      | lst xs => exact ⟨n, xs, rfl, e⟩
      | _ => simp [e] at h
  | _ => cases h
theorem obL_ty {M : MS} {d : D} {W : Wd} {H : Hp} {v : V} (h : isObL M d = true) (r : Rep X.K W d v) (hH : HRel X.K cl W M H) : tyV X.K "list" v H := by
  obtain ⟨n, xs, rfl, e⟩ := isObL_ok h
  obtain ⟨a, z, ea⟩ := r
  obtain ⟨vs, ho, q⟩ := hH.getL e ea
  rw [z]
  exact .inl ⟨rfl, vs, SqL.of ho⟩
/-- xs.append(v) -/
def appL (o : D) (ds : List D) : Mo D := fun M => match o, ds with
  | .obj n, [v] => (match M[n]? with
    | some (.lst xs) => if fits (xs.length + 1) = true then some (.ok .non, M.set n (.lst (xs ++ [v]))) else none
    | _ => none)
  | _, _ => none
theorem mk_app : MtOk X cl E "list" rAppend isObL appL where
  ty := fun o M W H v h r hH => obL_ty h r hH
  run := fun o ds M W H v vs Q r rs hH hp => by
    cases o with
    | obj n =>
      match ds, rs, hp with
      | [d], rs, hp =>
        obtain ⟨u, rfl, ru⟩ := rs.one_of
        obtain ⟨a, z, ea⟩ := r
        have hp : Post X.K cl E (Rep X.K) W ((match M[n]? with | some (.lst xs) => if fits (xs.length + 1) = true then some (.ok .non, M.set n (.lst (xs ++ [d]))) else none | _ => none : Out D)) Q := hp
        cases e : M[n]? with
        | none => simp only [e] at hp; exact hp.elim
        | some mo =>
          simp only [e] at hp
          cases mo with
          | lst xs =>
            simp only at hp
            by_cases c : fits (xs.length + 1) = true
            · rw [if_pos c] at hp
              obtain ⟨us, ho, q⟩ := hH.getL e ea
              refine ⟨a, us, u, z, rfl, ho, by rw [q.length]; exact fits_le c, ?_⟩
              exact hp W _ _ (.refl W) rfl (hH.putL e ea (q.append (Reps.one ru)))
            · rw [if_neg c] at hp; exact hp.elim
          | _ => exact hp.elim
      | [], _, hp => exact hp.elim
      | _ :: _ :: _, _, hp => exact hp.elim
    | _ => exact hp.elim
end
/-! ### a def's own objects are forgotten, or frozen -/
mutual
def D.bd (k : Nat) : D → Bool
  | .obj n => decide (n < k)
  | .tup xs => bdL k xs
  | .lst xs => bdL k xs
  | _ => true
def bdL (k : Nat) : List D → Bool
  | [] => true
  | d :: ds => D.bd k d && bdL k ds
end
def MO.bd (k : Nat) : MO → Bool
  | .lst xs => bdL k xs
  | .ins _ fs => fs.all fun p => D.bd k p.2
  | .dK kvs => kvs.all fun p => D.bd k p.2
  | .dF kvs => kvs.all fun p => D.bd k p.1 && D.bd k p.2
  | .gone => true
def Wd.cut (W : Wd) (k : Nat) : Wd := ⟨W.ι.take k, W.G, W.F⟩
section
variable {K : PySem.W.Frag} {cl : Str → Addr} {W W0 : Wd} {k : Nat}
mutual
theorem Rep.trunc : ∀ (d : D) (v : V), D.bd k d = true → Rep K W d v → Rep K (W.cut k) d v
  | .non, _, _, h => h
  | .emp, _, _, h => h
  | .scr _, _, _, h => h
  | .bl _, _, _, h => h
  | .int _, _, _, h => h
  | .str _, _, _, h => h
  | .tup ds, _, b, ⟨a, vs, e, s, r⟩ => ⟨a, vs, e, s, Reps.trunc ds vs b r⟩
  | .lst ds, _, b, ⟨a, vs, e, s, r⟩ => ⟨a, vs, e, s, Reps.trunc ds vs b r⟩
  | .obj n, _, b, ⟨a, e, h⟩ => ⟨a, e, by
    show (W.ι.take k)[n]? = some a
    rw [List.getElem?_take_of_lt (of_decide_eq_true b)]; exact h⟩
theorem Reps.trunc : ∀ (ds : List D) (vs : List V), bdL k ds = true → Reps K W ds vs → Reps K (W.cut k) ds vs
  | [], _, _, h => h
  | d :: ds, _, b, ⟨v, r, e, h1, h2⟩ => ⟨v, r, e, Rep.trunc d v (Bool.and_eq_true_iff.mp b).1 h1, Reps.trunc ds r (Bool.and_eq_true_iff.mp b).2 h2⟩
end
theorem Paired.impL {α β : Type} {R S : α → β → Prop} : ∀ {l : List α} {m : List β}, Paired R l m → (∀ a b, a ∈ l → R a b → S a b) → Paired S l m
  | _, _, .nil, _ => .nil
  | _, _, .cons r t, f => .cons (f _ _ List.mem_cons_self r) (Paired.impL t fun a b h => f a b (List.mem_cons_of_mem _ h))
theorem RepMO.trunc {mo : MO} {a : Addr} {ho : Option HO} (b : mo.bd k = true) (h : RepMO K cl W mo a ho) : RepMO K cl (W.cut k) mo a ho := by
  cases mo with
  | lst ds => obtain ⟨vs, e, r⟩ := h; exact ⟨vs, e, Reps.trunc ds vs b r⟩
  | ins c fs =>
    obtain ⟨dx, vs, e, r⟩ := h
    exact ⟨dx, vs, e, Paired.impL r fun p q hp z => ⟨z.1, Rep.trunc _ _ (List.all_eq_true.mp b p hp) z.2⟩⟩
  | dK kvs =>
    obtain ⟨vs, e, r⟩ := h
    exact ⟨vs, e, Paired.impL r fun p q hp z => ⟨z.1, Rep.trunc _ _ (List.all_eq_true.mp b p hp) z.2⟩⟩
  | dF kvs =>
    obtain ⟨es, e, r, x⟩ := h
    refine ⟨es, e, Paired.impL r fun p q hp ⟨v, u, y1, y2, y3, y4⟩ => ?_, x⟩
    have := Bool.and_eq_true_iff.mp (List.all_eq_true.mp b p hp)
    exact ⟨v, u, Rep.trunc _ _ this.1 y1, y2, Rep.trunc _ _ this.2 y3, y4⟩
  | gone => exact h
/-- the later objects are forgotten -/
theorem HRel.trunc {M M2 junk : MS} {H0 H : Hp} (h0 : HRel K cl W0 M H0) (l : W0.le W) (h : HRel K cl W (M2 ++ junk) H) (hl : M.length ≤ M2.length) (hM : ∀ (n : Nat) (mo : MO), M2[n]? = some mo → mo.bd M2.length = true) : W0.le (W.cut M2.length) ∧ HRel K cl (W.cut M2.length) M2 H := by
  have hlen : W.ι.length = M2.length + junk.length := by rw [h.len, List.length_append]
  refine ⟨⟨fun n a e => ?_, l.g, l.f⟩, ⟨h.gle, ?_, fun n mo e => ?_, ?_, h.fle⟩⟩
  · have hn := (List.getElem?_eq_some_iff.mp e).1
    rw [h0.len] at hn
    show (W.ι.take M2.length)[n]? = some a
    rw [List.getElem?_take_of_lt (by omega)]
    exact l.i n a e
  · show (W.ι.take M2.length).length = M2.length
    rw [List.length_take, hlen]; omega
  · have hn := (List.getElem?_eq_some_iff.mp e).1
    obtain ⟨a, e1, e2, e3, r⟩ := h.obj n mo (by rw [List.getElem?_append_left hn]; exact e)
    refine ⟨a, ?_, e2, e3, r.trunc (hM n mo e)⟩
    show (W.ι.take M2.length)[n]? = some a
    rw [List.getElem?_take_of_lt hn]; exact e1
  · exact h.nd.sublist (List.take_sublist _ _)
end
section
variable {K : PySem.W.Frag} {cl : Str → Addr} {W : Wd} {k : Nat}
mutual
theorem Rep.bd (hk : W.ι.length ≤ k) : ∀ (d : D) (v : V), Rep K W d v → d.bd k = true
  | .non, _, _ => rfl
  | .emp, _, _ => rfl
  | .scr _, _, _ => rfl
  | .bl _, _, _ => rfl
  | .int _, _, _ => rfl
  | .str _, _, _ => rfl
  | .tup ds, _, ⟨a, vs, e, s, r⟩ => Reps.bd hk ds vs r
  | .lst ds, _, ⟨a, vs, e, s, r⟩ => Reps.bd hk ds vs r
  | .obj n, _, ⟨a, e, h⟩ => decide_eq_true (Nat.lt_of_lt_of_le (List.getElem?_eq_some_iff.mp h).1 hk)
theorem Reps.bd (hk : W.ι.length ≤ k) : ∀ (ds : List D) (vs : List V), Reps K W ds vs → bdL k ds = true
  | [], _, _ => rfl
  | d :: ds, _, ⟨v, r, e, h1, h2⟩ => Bool.and_eq_true_iff.mpr ⟨Rep.bd hk d v h1, Reps.bd hk ds r h2⟩
end
theorem Paired.all {α β : Type} {R : α → β → Prop} {p : α → Bool} : ∀ {l : List α} {m : List β}, Paired R l m → (∀ a b, R a b → p a = true) → l.all p = true
  | _, _, .nil, _ => rfl
  | _, _, .cons r t, f => by rw [List.all_cons, f _ _ r, Paired.all t f]; rfl
theorem HRel.bd {M : MS} {H : Hp} (h : HRel K cl W M H) : ∀ mo ∈ M, mo.bd M.length = true := fun mo hm => by
  obtain ⟨n, hn, e⟩ := List.mem_iff_getElem.mp hm
  obtain ⟨a, _, _, _, r⟩ := h.obj n mo (by rw [List.getElem?_eq_getElem hn, e])
  have hk : W.ι.length ≤ M.length := Nat.le_of_eq h.len
  cases mo with
  | lst ds => obtain ⟨vs, _, r⟩ := r; exact Reps.bd hk ds vs r
  | ins c fs => obtain ⟨dx, vs, _, r⟩ := r; exact Paired.all r fun p q z => Rep.bd hk _ _ z.2
  | dK kvs => obtain ⟨vs, _, r⟩ := r; exact Paired.all r fun p q z => Rep.bd hk _ _ z.2
  | dF kvs => obtain ⟨es, _, r, _⟩ := r; exact Paired.all r fun p q ⟨v, u, y1, y2, y3, y4⟩ => Bool.and_eq_true_iff.mpr ⟨Rep.bd hk _ _ y1, Rep.bd hk _ _ y3⟩
  | gone => rfl
end
inductive Loc (k : Nat) (M' : MS) : D → D → Prop where
  | same {d : D} : d.bd k = true → Loc k M' d d
  | frz {n : Nat} {xs : List D} : k ≤ n → M'[n]? = some (.lst xs) → bdL k xs = true → Loc k M' (.obj n) (.lst xs)
section
variable {P : Program} {w : World} {K : PySem.W.Frag} {mg : Str → Option Value} {base : Heap} {cl : Str → Addr}
theorem DefOk.loc {x : Str} {k n : Nat} {F F' : Fn} (h : DefOk P w K mg base cl x k n F)
    (i : ∀ ds M r M2, (∀ mo ∈ M, mo.bd M.length = true) → F' ds M = some (r, M2) → (∃ x, r = .error x ∧ F ds M = some (.error x, M2)) ∨ ∃ d' d junk, r = .ok d' ∧ F ds M = some (.ok d, M2 ++ junk) ∧ Loc M2.length (M2 ++ junk) d d' ∧ M.length ≤ M2.length ∧ ∀ (n : Nat) (mo : MO), M2[n]? = some mo → mo.bd M2.length = true) : DefOk P w K mg base cl x k n F' := by
  obtain ⟨f, fd, ps, a, b, c⟩ := h.ex
  refine ⟨f, fd, ps, a, b.imp fun vs H Q E ⟨a, ds, M, W, r, hH, hp⟩ => ⟨a, ds, M, W, r, hH, ?_⟩, c⟩
  cases e : F' ds M with
  | none => rw [e] at hp; exact hp.elim
  | some q =>
    rw [e] at hp
    obtain ⟨q, M2⟩ := q
    rcases i ds M q M2 hH.bd e with ⟨x, rfl, e2⟩ | ⟨d', d, junk, rfl, e2, lc, hl, hM⟩
    · rw [e2]; exact hp
    · rw [e2]
      intro W' H' v l rv hH'
      obtain ⟨l2, h2⟩ := hH.trunc l hH' hl hM
      cases lc with
      | same hb => exact hp _ H' v l2 (Rep.trunc _ _ hb rv) h2
      | @frz n xs hn hx hb =>
        obtain ⟨a, z, ea⟩ := rv
        obtain ⟨b, eb, gb, fb, vs, ho, q⟩ := hH'.obj n _ hx
        rw [ea] at eb
        have eb := Option.some.inj eb
        subst eb
        have ga := gb (fun z => nomatch z)
        -- the list at a is frozen
        have vle : (W'.cut M2.length).vle ⟨(W'.cut M2.length).ι, upd W'.G a (.lst vs), W'.F⟩ := ⟨fun _ _ e => e, fun b o e => by
          show upd W'.G a _ b = some o
          rw [upd_ne (ne_of_none (show W'.G b = some o from e) ga)]; exact e⟩
        have nin : ∀ m b, (W'.ι.take M2.length)[m]? = some b → b ≠ a := fun m b e z => by
          subst z
          have hm : m < M2.length := by
            have := (List.getElem?_eq_some_iff.mp e).1
            rw [List.length_take] at this
            omega
          rw [List.getElem?_take_of_lt hm] at e
          obtain ⟨h1, q1⟩ := List.getElem?_eq_some_iff.mp e
          obtain ⟨h2, q2⟩ := List.getElem?_eq_some_iff.mp ea
          have := (List.getElem_inj hH'.nd).mp (q1.trans q2.symm)
          omega
        refine hp ⟨(W'.cut M2.length).ι, upd W'.G a (.lst vs), W'.F⟩ H' v ⟨l2.i, fun b o e => vle.g b o (l2.g b o e), l2.f⟩ ⟨a, vs, z, Rd.of upd_same, Reps.upv (Reps.trunc xs vs hb q) vle⟩ ⟨fun b o e => ?_, h2.len, fun m mo em => ?_, h2.nd, fun b o e => ?_⟩
        · have e : upd W'.G a (.lst vs) b = some o := e
          by_cases q : b = a
          · subst q
            rw [upd_same] at e
            rw [← e]; exact ho
          · rw [upd_ne q] at e
            exact hH'.gle _ _ e
        · obtain ⟨b, e1, e2, e3, r⟩ := h2.obj m mo em
          have ne := nin m b e1
          refine ⟨b, e1, fun z => ?_, e3, r.upv vle⟩
          show upd W'.G a _ b = none
          rw [upd_ne ne]; exact e2 z
        · obtain ⟨h3, h4⟩ := hH'.fle b o e
          refine ⟨h3, ?_⟩
          show upd W'.G a _ b = none
          have ne : b ≠ a := fun z => by subst z; rw [fb] at e; cases e
          rw [upd_ne ne]; exact h4
theorem okD0 {x qual : Str} {params : Arguments} {body : List Stmt} {scope : Scope} {f : Addr} {fd : FuncData} {ps : List Str} {k : Nat} (Fd : FunD K x qual params body scope [] [] f fd) (gm : mg x = some (.ref f))
    (hb : ∀ (kV doc pm : Value) (an : Option Addr) (cdv ct : Value) (us : List Value), us.length = ps.length → bindArgs (PySem.W.fnOf x qual params body scope .none kV doc pm an cdv ct) ⟨us, []⟩ = pure (ps.zip us)) : DefOk P w K mg base cl x k ps.length (fun _ _ => none) :=
  ⟨f, fd, ps, rfl, ⟨fun _ _ _ _ h => h.1, fun _ _ _ _ _ _ _ _ _ _ _ _ _ ⟨_, _, _, _, _, _, hp⟩ => hp.elim⟩, gm, Fd.kp, Fd.bindsN hb⟩
end
open Classical in
/-- the objects that a def made for itself forgotten; its list, if it hands one back, frozen -/
noncomputable def truncF (F : Fn) : Fn := fun ds M => match F ds M with
  | some (.ok d, M') => if M.length ≤ M'.length ∧ (∀ mo ∈ M'.take M.length, mo ∈ M ∨ mo.bd M.length = true) then
      (if d.bd M.length = true then some (.ok d, M'.take M.length) else (match d with
      | .obj n => (match M'[n]? with
        | some (.lst xs) => if M.length ≤ n ∧ bdL M.length xs = true then some (.ok (.lst xs), M'.take M.length) else none
        | _ => none)
      | _ => none))
    else none
  | some (.error x, M') => some (.error x, M')
  | none => none
section
variable {P : Program} {w : World} {K : PySem.W.Frag} {mg : Str → Option Value} {base : Heap} {cl : Str → Addr}
theorem DefOk.trunc {x : Str} {k n : Nat} {F : Fn} (h : DefOk P w K mg base cl x k n F) : DefOk P w K mg base cl x k n (truncF F) := h.loc fun ds M r M2 hb e => by
  unfold truncF at e
  cases q : F ds M with
  | none => rw [q] at e; cases e
  | some z =>
    obtain ⟨z, M'⟩ := z
    rw [q] at e
    cases z with
    | error x => cases e; exact .inl ⟨x, rfl, rfl⟩
    | ok d =>
      simp only at e
      split at e
      · rename_i c
        have lt : (M'.take M.length).length = M.length := by rw [List.length_take]; omega
        have hM : ∀ (n : Nat) (mo : MO), (M'.take M.length)[n]? = some mo → mo.bd (M'.take M.length).length = true := fun n mo en => by
          rw [lt]
          rcases c.2 mo (List.mem_of_getElem? en) with z | z
          · exact hb mo z
          · exact z
        have cat : M' = M'.take M.length ++ M'.drop M.length := (List.take_append_drop _ _).symm
        split at e
        · rename_i c2
          cases e
          exact .inr ⟨d, d, M'.drop M.length, rfl, by rw [← cat], .same (by rw [lt]; exact c2), by rw [lt]; exact Nat.le_refl _, hM⟩
        · split at e
          · rename_i m _
            split at e
            · rename_i xs hx
              split at e
              · rename_i c3
                cases e
                exact .inr ⟨.lst xs, .obj m, M'.drop M.length, rfl, by rw [← cat], .frz (by rw [lt]; exact c3.1) (by rw [← cat]; exact hx) (by rw [lt]; exact c3.2), by rw [lt]; exact Nat.le_refl _, hM⟩
              · cases e
            · cases e
          · cases e
      · cases e
/-- what a trimmed def makes -/
theorem truncF_same {F : Fn} {ds : List D} {M M2 junk : MS} {d : D} (h : F ds M = some (.ok d, M2 ++ junk)) (hl : M2.length = M.length) (hm : ∀ mo ∈ M2, mo ∈ M ∨ mo.bd M.length = true) (hd : d.bd M.length = true) : truncF F ds M = some (.ok d, M2) := by
  have ht : (M2 ++ junk).take M.length = M2 := by rw [← hl]; simp
  unfold truncF
  rw [h]
  simp only [ht, hd, if_true]
  rw [if_pos ⟨by rw [List.length_append]; omega, by rw [ht]; exact hm⟩]
theorem truncF_list {F : Fn} {ds : List D} {M M2 junk : MS} {n : Nat} {xs : List D} (h : F ds M = some (.ok (.obj n), M2 ++ junk)) (hl : M2.length = M.length) (hm : ∀ mo ∈ M2, mo ∈ M ∨ mo.bd M.length = true) (hn : M.length ≤ n) (hx : (M2 ++ junk)[n]? = some (.lst xs)) (hd : bdL M.length xs = true) : truncF F ds M = some (.ok (.lst xs), M2) := by
  have ht : (M2 ++ junk).take M.length = M2 := by rw [← hl]; simp
  have hb : ¬ (D.obj n).bd M.length = true := by
    show ¬ decide (n < M.length) = true
    simp; omega
  unfold truncF
  rw [h]
  simp only [ht, hx]
  rw [if_pos ⟨by rw [List.length_append]; omega, by rw [ht]; exact hm⟩, if_neg hb, if_pos ⟨hn, hd⟩]
end
end DL

/-! DL: what the pieces make, as rules for simp. -/
namespace DL
open PySem PySem.Spec PyProof.Rows L2
section
variable {α β : Type}
@[simp] theorem x_ret (a : α) (M : MS) : Mo.ret a M = some (.ok a, M) := rfl
@[simp] theorem x_stop (M : MS) : (Mo.stop : Mo α) M = none := rfl
@[simp] theorem x_opt (a : α) (M : MS) : Mo.opt (some a) M = some (.ok a, M) := rfl
theorem x_bnd {m : Mo α} {f : α → Mo β} {M M1 : MS} {a : α} (h : m M = some (.ok a, M1)) : Mo.bnd m f M = f a M1 := Mo.bnd_of h
@[simp] theorem x_bndret (a : α) (f : α → Mo β) : Mo.bnd (Mo.ret a) f = f a := rfl
@[simp] theorem x_bndopt (a : α) (f : α → Mo β) : Mo.bnd (Mo.opt (some a)) f = f a := rfl
@[simp] theorem x_assoc {γ : Type} (m : Mo α) (f : α → Mo β) (g : β → Mo γ) : Mo.bnd (Mo.bnd m f) g = Mo.bnd m fun a => Mo.bnd (f a) g := Mo.bnd_assoc m f g
theorem x_ite {c : Prop} [Decidable c] (a b : Mo α) (f : α → Mo β) : Mo.bnd (if c then a else b) f = if c then Mo.bnd a f else Mo.bnd b f := by split <;> rfl
end
section
variable {t : Rho → Mo Bool} {b : XS} {ρ ρ2 : Rho} {M M1 M2 : MS} {r : Except Ex Fl × MS}
theorem sWh_true (ht : t ρ M = some (.ok true, M1)) (hb : b ρ M1 = some (.ok (.nx ρ2), M2)) (h : sWh t b ρ2 M2 = some r) : sWh t b ρ M = some r := by
  refine sWh_step ?_
  rw [Mo.bnd_of ht]
  simp only [if_true]
  rw [Mo.bnd_of hb]
  exact h
theorem sWh_false (ht : t ρ M = some (.ok false, M1)) : sWh t b ρ M = some (.ok (.nx ρ), M1) := by
  refine sWh_step ?_
  rw [Mo.bnd_of ht]
  simp only [Bool.false_eq_true, if_false]
  rfl
end
/-! ### loops over fixed lists -/
section
variable {g : XG} {b : XS} {s : Src}
theorem chk_frz (xs : List D) (M : MS) : chk (.frz xs) M = some (.ok (), M) := by
  unfold chk
  rw [if_pos (show (Src.frz xs).ok M from trivial)]
theorem chk_ob {n : Nat} {xs : List D} {M : MS} (h : M[n]? = some (.lst xs)) : chk (.ob n xs) M = some (.ok (), M) := by
  unfold chk
  rw [if_pos (show (Src.ob n xs).ok M from h)]
@[simp] theorem x_chk (xs : List D) {α : Type} (f : Unit → Mo α) : Mo.bnd (chk (.frz xs)) f = f () := by
  funext M
  rw [Mo.bnd_of (chk_frz xs M)]
/-- a for over a fixed list by an invariant of the slots and the store -/
theorem loopF_inv {xs0 : List D} (P : Nat → Rho → MS → Prop) (step : ∀ (i : Nat) x ρ M, xs0[i]? = some x → P i ρ M → ∃ ρ1 M1 ρ2 M2, g x ρ M = some (.ok ρ1, M1) ∧ b ρ1 M1 = some (.ok (.nx ρ2), M2) ∧ P (i + 1) ρ2 M2) :
    ∀ (xs : List D) (i : Nat) (ρ : Rho) (M : MS), i ≤ xs0.length → xs0.drop i = xs → P i ρ M → ∃ ρ' M', loopF g b (.frz xs0) xs ρ M = some (.ok (.nx ρ'), M') ∧ P xs0.length ρ' M'
  | [], i, ρ, M, hi, hd, hP => by
    have : xs0.length ≤ i := by
      have := congrArg List.length hd
      simp at this; omega
    have e : i = xs0.length := by omega
    subst e
    exact ⟨ρ, M, rfl, hP⟩
  | x :: xs, i, ρ, M, hi, hd, hP => by
    have hx : xs0[i]? = some x := by
      have := congrArg (fun l => l[0]?) hd
      simpa using this
    obtain ⟨ρ1, M1, ρ2, M2, e1, e2, hP2⟩ := step i x ρ M hx hP
    have hd2 : xs0.drop (i + 1) = xs := by
      have := congrArg List.tail hd
      simpa [List.tail_drop] using this
    obtain ⟨ρ', M', e3, hP3⟩ := loopF_inv P step xs (i + 1) ρ2 M2 (by have := (List.getElem?_eq_some_iff.mp hx).1; omega) hd2 hP2
    refine ⟨ρ', M', ?_, hP3⟩
    show Mo.bnd (g x ρ) _ M = _
    rw [Mo.bnd_of e1]
    show Mo.bnd (b ρ1) _ M1 = _
    rw [Mo.bnd_of e2]
    simp only [x_chk]
    exact e3
end
/-! ### plain values -/
mutual
def plain : D → Bool
  | .obj _ => false
  | .scr _ => false
  | .tup xs => plains xs
  | .lst xs => plains xs
  | _ => true
def plains : List D → Bool
  | [] => true
  | d :: ds => plain d && plains ds
end
theorem plains_all : ∀ {ds : List D}, plains ds = true ↔ ∀ d ∈ ds, plain d = true
  | [] => by simp [plains]
  | d :: ds => by simp [plains, plains_all (ds := ds)]
theorem plains_app {ds es : List D} : plains (ds ++ es) = (plains ds && plains es) := by
  induction ds with
  | nil => simp [plains]
  | cons d ds ih => simp [plains, ih, Bool.and_assoc]
theorem isi_ok (T : Ty) {d : D} (h : plain d = true) (M : MS) : isiD T d M = some (.ok (.bl (isT T d)), M) := by
  cases d <;> first | rfl | (simp [plain] at h)
section
variable (T : Ty) (M : MS)
@[simp] theorem isi_int (i : Int) : isiD T (.int i) M = some (.ok (.bl (isT T (.int i))), M) := rfl
@[simp] theorem isi_bl (i : Bool) : isiD T (.bl i) M = some (.ok (.bl (isT T (.bl i))), M) := rfl
@[simp] theorem isi_str (i : Str) : isiD T (.str i) M = some (.ok (.bl (isT T (.str i))), M) := rfl
@[simp] theorem isi_non : isiD T .non M = some (.ok (.bl (isT T .non)), M) := rfl
@[simp] theorem isi_emp : isiD T .emp M = some (.ok (.bl (isT T .emp)), M) := rfl
@[simp] theorem isi_tup (xs : List D) : isiD T (.tup xs) M = some (.ok (.bl (isT T (.tup xs))), M) := rfl
@[simp] theorem isi_lst (xs : List D) : isiD T (.lst xs) M = some (.ok (.bl (isT T (.lst xs))), M) := rfl
end
@[simp] theorem eqvD_int (a b : Int) : eqvD (.int a) (.int b) = some (decide (a = b)) := rfl
@[simp] theorem eqvD_bl (a b : Bool) : eqvD (.bl a) (.bl b) = some (decide (a = b)) := by cases a <;> cases b <;> rfl
@[simp] theorem eqvD_str (a b : Str) : eqvD (.str a) (.str b) = some (decide (a = b)) := rfl
@[simp] theorem eqvD_blint (a : Bool) (b : Int) : eqvD (.bl a) (.int b) = some (decide ((if a then 1 else 0) = b)) := rfl
@[simp] theorem eqvD_intbl (a : Int) (b : Bool) : eqvD (.int a) (.bl b) = some (decide (a = (if b then 1 else 0))) := rfl
/-! ### comprehensions over fixed lists -/
section
variable {t : Rho → Mo Bool} {e : XE} {ρ0 : Rho} {i : Nat} {M : MS} {xs0 : List D}
theorem loopC_map {f : D → D} : ∀ (xs : List D), (∀ x ∈ xs, e (ρ0.set i (some x)) M = some (.ok (f x), M)) → loopC (.one i) tAll e (.frz xs0) ρ0 xs M = some (.ok (xs.map f), M)
  | [], _ => rfl
  | x :: xs, h => by
    show Mo.bnd (Mo.ret _) _ M = _
    simp only [x_bndret, tAll, if_true]
    rw [Mo.bnd_of (h x List.mem_cons_self)]
    simp only [x_chk]
    rw [Mo.bnd_of (loopC_map xs fun y hy => h y (List.mem_cons_of_mem _ hy))]
    rfl
theorem loopC_filter {f : D → D} {p : D → Bool} : ∀ (xs : List D), (∀ x ∈ xs, t (ρ0.set i (some x)) M = some (.ok (p x), M)) → (∀ x ∈ xs, p x = true → e (ρ0.set i (some x)) M = some (.ok (f x), M)) → loopC (.one i) t e (.frz xs0) ρ0 xs M = some (.ok ((xs.filter p).map f), M)
  | [], _, _ => rfl
  | x :: xs, h, h2 => by
    have ih := loopC_filter xs (fun y hy => h y (List.mem_cons_of_mem _ hy)) fun y hy => h2 y (List.mem_cons_of_mem _ hy)
    show Mo.bnd (Mo.ret _) _ M = _
    simp only [x_bndret]
    rw [Mo.bnd_of (h x List.mem_cons_self)]
    cases c : p x with
    | false =>
      simp only [Bool.false_eq_true, if_false, x_chk]
      rw [ih, List.filter_cons_of_neg (by rw [c]; exact Bool.false_ne_true)]
    | true =>
      simp only [if_true]
      rw [Mo.bnd_of (h2 x List.mem_cons_self c)]
      simp only [x_chk]
      rw [Mo.bnd_of ih, List.filter_cons_of_pos c]
      rfl
theorem eLc_of {it : Rho → Mo Src} {g : CT} {own : List Nat} {ρ : Rho} {M1 M2 : MS} {xs ys : List D} (h : it ρ M = some (.ok (.frz xs), M1)) (hz : fits xs.length = true) (hl : loopC g t e (.frz xs) (wipeR ρ own) xs M1 = some (.ok ys, M2)) : eLc it g t e own ρ M = some (.ok (.lst ys), M2) := by
  unfold eLc
  rw [Mo.bnd_of h]
  simp only [x_chk]
  have e2 : noex (if fits (Src.frz xs).xs.length = true then loopC g t e (.frz xs) (wipeR ρ own) (Src.frz xs).xs else Mo.stop) M1 = some (.ok ys, M2) := by
    unfold noex
    rw [if_pos (show fits (Src.frz xs).xs.length = true from hz)]
    rw [show loopC g t e (.frz xs) (wipeR ρ own) (Src.frz xs).xs M1 = _ from hl]
  rw [Mo.bnd_of e2]
  rfl
end
theorem fits_of {n : Nat} (h : n ≤ 1000000) : fits n = true := decide_eq_true (by rw [sizeLine_eq]; omega)
end DL

/-! DL: running pieces forwards: what must hold for a piece to end well. -/
namespace DL
open PySem PySem.Spec PyProof.Rows L2
def wq {α : Type} (m : Mo α) (M : MS) (Q : α → MS → Prop) : Prop := ∃ a M', m M = some (.ok a, M') ∧ Q a M'
section
variable {α β : Type} {M M1 : MS} {m : Mo α} {a : α} {f : α → Mo β}
theorem wq_mono {Q R : α → MS → Prop} (h : wq m M Q) (k : ∀ a M', Q a M' → R a M') : wq m M R := by
  obtain ⟨a, M', e, q⟩ := h
  exact ⟨a, M', e, k _ _ q⟩
theorem wq_bndE {Q : β → MS → Prop} : wq (Mo.bnd m f) M Q = wq m M fun a M' => wq (f a) M' Q := by
  refine propext ⟨fun ⟨b, M2, e, q⟩ => ?_, fun ⟨a, M1, e, b, M2, e2, q⟩ => ⟨b, M2, by rw [Mo.bnd_of e]; exact e2, q⟩⟩
  obtain ⟨a, M1, e1, e2⟩ := Mo.bnd_ok e
  exact ⟨a, M1, e1, b, M2, e2, q⟩
theorem wq_of {Q : α → MS → Prop} (h : m M = some (.ok a, M1)) : wq m M Q = Q a M1 :=
  propext ⟨fun ⟨b, M2, e, q⟩ => by rw [h] at e; cases e; exact q, fun q => ⟨a, M1, h, q⟩⟩
theorem wq_call {Q : α → MS → Prop} (h : m M = some (.ok a, M1)) (q : Q a M1) : wq m M Q := ⟨a, M1, h, q⟩
theorem wq_eq {Q : α → MS → Prop} (h : wq m M Q) : ∃ a M', m M = some (.ok a, M') ∧ Q a M' := h
theorem wq_val {d : α} (h : wq m M fun v M' => v = d ∧ M' = M1) : m M = some (.ok d, M1) := by
  obtain ⟨a, M', e, rfl, rfl⟩ := h
  exact e
end
section
variable {α β : Type} {M : MS}
theorem q_bnd {m : Mo α} {f : α → Mo β} {Q : β → MS → Prop} : wq (Mo.bnd m f) M Q = wq m M fun a M' => wq (f a) M' Q := wq_bndE
theorem q_ret {a : α} {Q : α → MS → Prop} : wq (Mo.ret a) M Q = Q a M := wq_of rfl
theorem q_opt {a : α} {Q : α → MS → Prop} : wq (Mo.opt (some a)) M Q = Q a M := wq_of rfl
theorem q_chk {xs : List D} {Q : Unit → MS → Prop} : wq (chk (.frz xs)) M Q = Q () M := wq_of (chk_frz xs M)
theorem q_chkob {n : Nat} {xs : List D} {Q : Unit → MS → Prop} : wq (chk (.ob n xs)) M Q = (M[n]? = some (.lst xs) ∧ Q () M) := by
  refine propext ⟨fun ⟨a, M1, e, q⟩ => ?_, fun ⟨h, q⟩ => ⟨(), M, chk_ob h, q⟩⟩
  unfold chk at e
  split at e
  · rename_i h; cases e; exact ⟨h, q⟩
  · cases e
theorem q_guard {p : MS → Bool} {Q : Unit → MS → Prop} : wq (guardB p) M Q = (p M = true ∧ Q () M) := by
  refine propext ⟨fun ⟨a, M1, e, q⟩ => ?_, fun ⟨h, q⟩ => ⟨(), M, by unfold guardB; rw [if_pos h], q⟩⟩
  unfold guardB at e
  split at e
  · rename_i h; cases e; exact ⟨h, q⟩
  · cases e
theorem q_noex {m : Mo α} {Q : α → MS → Prop} : wq (noex m) M Q = wq m M Q := by
  refine propext ⟨fun ⟨a, M1, e, q⟩ => ⟨a, M1, ?_, q⟩, fun ⟨a, M1, e, q⟩ => ⟨a, M1, by unfold noex; rw [e], q⟩⟩
  unfold noex at e
  split at e
  · cases e
  · exact e
theorem q_ite {c : Prop} [Decidable c] {x y : Mo α} {Q : α → MS → Prop} : wq (if c then x else y) M Q = if c then wq x M Q else wq y M Q := by split <;> rfl
theorem q_btrue {c : Bool} {x y : Mo α} {Q : α → MS → Prop} : wq (if c = true then x else y) M Q = if c = true then wq x M Q else wq y M Q := by split <;> rfl
theorem q_ifret {c : Prop} [Decidable c] {x : α} {Q : α → MS → Prop} : wq (if c then Mo.ret x else Mo.stop) M Q = (c ∧ Q x M) := by
  by_cases h : c
  · rw [if_pos h, q_ret]; simp [h]
  · rw [if_neg h]; exact propext ⟨fun ⟨_, _, e, _⟩ => (nomatch e), fun z => (h z.1).elim⟩
/-! ### pieces -/
variable {Q : D → MS → Prop} {QF : Fl → MS → Prop} {QB : Bool → MS → Prop} {QR : Rho → MS → Prop} {QL : List D → MS → Prop} {QO : Option Int → MS → Prop} {QS : Src → MS → Prop} {ρ : Rho}
theorem q_eV {i : Nat} : wq (eV i ρ) M Q = wq (Mo.opt (ρ[i]?.join)) M Q := rfl
theorem q_eC {d : D} : wq (eC d ρ) M Q = Q d M := wq_of rfl
theorem q_e1 {g : D → Mo D} {a : XE} : wq (e1 g a ρ) M Q = wq (a ρ) M fun x M1 => wq (g x) M1 Q := wq_bndE
theorem q_e2 {g : D → D → Mo D} {a b : XE} : wq (e2 g a b ρ) M Q = wq (a ρ) M fun x M1 => wq (b ρ) M1 fun y M2 => wq (g x y) M2 Q := by
  unfold e2; rw [wq_bndE]; simp only [wq_bndE]
theorem q_aLn : wq (aL [] ρ) M QL = QL [] M := wq_of rfl
theorem q_aLc {a : XE} {as : List XE} : wq (aL (a :: as) ρ) M QL = wq (a ρ) M fun x M1 => wq (aL as ρ) M1 fun xs M2 => QL (x :: xs) M2 := by
  show wq (Mo.bnd (a ρ) fun d => Mo.bnd (aL as ρ) fun ds => Mo.ret (d :: ds)) M QL = _
  rw [wq_bndE]; simp only [wq_bndE, q_ret]
theorem q_eTup {as : List XE} : wq (eTup as ρ) M Q = wq (aL as ρ) M fun ds M1 => Q (.tup ds) M1 := by
  unfold eTup; rw [wq_bndE]; simp only [q_ret]
theorem q_eLst {as : List XE} : wq (eLst as ρ) M Q = wq (aL as ρ) M fun ds M1 => Q (.lst ds) M1 := by
  unfold eLst; rw [wq_bndE]; simp only [q_ret]
theorem q_newO {mo : MO} : wq (newO mo) M Q = Q (.obj M.length) (M ++ [mo]) := wq_of rfl
theorem q_eLstM {as : List XE} : wq (eLstM as ρ) M Q = wq (aL as ρ) M fun ds M1 => Q (.obj M1.length) (M1 ++ [.lst ds]) := by
  unfold eLstM; rw [wq_bndE]; simp only [q_newO]
theorem q_eB {g : List D → Mo D} {as : List XE} : wq (eB g as ρ) M Q = wq (aL as ρ) M fun ds M1 => wq (g ds) M1 Q := wq_bndE
theorem q_tV {m : XE} : wq (tV m ρ) M QB = wq (m ρ) M fun d M1 => wq (bOf d) M1 QB := wq_bndE
theorem q_bOf {b : Bool} : wq (bOf (.bl b)) M QB = QB b M := wq_of rfl
theorem q_tAn {a b : Rho → Mo Bool} : wq (tAn a b ρ) M QB = wq (a ρ) M fun c M1 => if c = true then wq (b ρ) M1 QB else QB false M1 := by
  unfold tAn; rw [wq_bndE]; simp only [q_btrue, q_ret]
theorem q_tOrr {a b : Rho → Mo Bool} : wq (tOrr a b ρ) M QB = wq (a ρ) M fun c M1 => if c = true then QB true M1 else wq (b ρ) M1 QB := by
  unfold tOrr; rw [wq_bndE]; simp only [q_btrue, q_ret]
theorem q_tNo {a : Rho → Mo Bool} : wq (tNo a ρ) M QB = wq (a ρ) M fun c M1 => QB (!c) M1 := by
  unfold tNo; rw [wq_bndE]; simp only [q_ret]
theorem q_eIf {t : Rho → Mo Bool} {a b : XE} : wq (eIf t a b ρ) M Q = wq (t ρ) M fun c M1 => if c = true then wq (a ρ) M1 Q else wq (b ρ) M1 Q := by
  unfold eIf; rw [wq_bndE]; simp only [q_btrue]
theorem q_eAn {a b : XE} : wq (eAn a b ρ) M Q = wq (a ρ) M fun d M1 => wq (bOf d) M1 fun c M2 => if c = true then wq (b ρ) M2 Q else Q (.bl false) M2 := by
  unfold eAn; rw [wq_bndE]; simp only [wq_bndE, q_btrue, q_ret]
theorem q_eOrr {a b : XE} : wq (eOrr a b ρ) M Q = wq (a ρ) M fun d M1 => wq (bOf d) M1 fun c M2 => if c = true then Q (.bl true) M2 else wq (b ρ) M2 Q := by
  unfold eOrr; rw [wq_bndE]; simp only [wq_bndE, q_btrue, q_ret]
theorem q_eNo {a : XE} : wq (eNo a ρ) M Q = wq (a ρ) M fun d M1 => wq (bOf d) M1 fun c M2 => Q (.bl (!c)) M2 := by
  unfold eNo; rw [wq_bndE]; simp only [wq_bndE, q_ret]
theorem q_eCh {f g : D → D → Mo D} {a b c : XE} : wq (eCh f g a b c ρ) M Q = wq (a ρ) M fun x M1 => wq (b ρ) M1 fun y M2 => wq (f x y) M2 fun z M3 => wq (bOf z) M3 fun k M4 => if k = true then wq (c ρ) M4 fun u M5 => wq (g y u) M5 Q else Q (.bl false) M4 := by
  unfold eCh; rw [wq_bndE]; simp only [wq_bndE, q_btrue, q_ret]
theorem q_pNo : wq (pNo ρ) M QO = QO none M := wq_of rfl
theorem q_pSo {m : XE} : wq (pSo m ρ) M QO = wq (m ρ) M fun d M1 => match d with | .int i => QO (some i) M1 | _ => False := by
  unfold pSo; rw [wq_bndE]; congr 1; funext d M1; cases d <;> first | exact wq_of rfl | exact propext ⟨fun ⟨_, _, e, _⟩ => (nomatch e), fun z => False.elim z⟩
theorem q_eSl {a : XE} {lo hi : XP} : wq (eSl a lo hi ρ) M Q = wq (a ρ) M fun d M1 => wq (lo ρ) M1 fun l M2 => wq (hi ρ) M2 fun h M3 => wq (slD l h d) M3 Q := by
  unfold eSl; rw [wq_bndE]; simp only [wq_bndE]
theorem q_eLc {it : Rho → Mo Src} {g : CT} {t : Rho → Mo Bool} {e : XE} {own : List Nat} : wq (eLc it g t e own ρ) M Q = wq (it ρ) M fun s M1 => wq (chk s) M1 fun _ M2 => fits s.xs.length = true ∧ wq (loopC g t e s (wipeR ρ own) s.xs) M2 fun ys M3 => Q (.lst ys) M3 := by
  unfold eLc; rw [wq_bndE]; simp only [wq_bndE, q_noex, q_ret]
  congr 1; funext s M1; congr 1; funext _ M2
  by_cases c : fits s.xs.length = true
  · simp only [c, if_true, true_and]
  · rw [if_neg c]; exact propext ⟨fun ⟨_, _, e, _⟩ => (nomatch e), fun z => (c z.1).elim⟩
theorem q_iS {m : XE} : wq (iS m ρ) M QS = wq (m ρ) M fun d M1 => wq (srcD d) M1 QS := wq_bndE
theorem q_iR {ms : List XE} : wq (iR ms ρ) M QS = wq (aL ms ρ) M fun d M1 => wq (rngD d) M1 QS := wq_bndE
theorem q_eM {pre : MS → D → Bool} {g : D → List D → Mo D} {mo : XE} {ms : List XE} : wq (eM pre g mo ms ρ) M Q = wq (mo ρ) M fun o M1 => pre M1 o = true ∧ wq (aL ms ρ) M1 fun ds M2 => wq (g o ds) M2 Q := by
  unfold eM; rw [wq_bndE]; simp only [wq_bndE, q_guard]
theorem q_sNext : wq (sNext ρ) M QF = QF (.nx ρ) M := wq_of rfl
theorem q_seqnx {b : XS} : wq (seqK b (.nx ρ)) M QF = wq (b ρ) M QF := rfl
theorem q_seqrt {b : XS} {d : D} : wq (seqK b (.rt d)) M QF = QF (.rt d) M := wq_of rfl
theorem q_seqbk {b : XS} : wq (seqK b (.bk ρ)) M QF = QF (.bk ρ) M := wq_of rfl
theorem q_seqct {b : XS} : wq (seqK b (.ct ρ)) M QF = QF (.ct ρ) M := wq_of rfl
theorem q_sSeq {a b : XS} : wq (sSeq a b ρ) M QF = wq (a ρ) M fun r M1 => wq (seqK b r) M1 QF := wq_bndE
theorem q_sIf {t : Rho → Mo Bool} {a b : XS} : wq (sIf t a b ρ) M QF = wq (t ρ) M fun c M1 => if c = true then wq (a ρ) M1 QF else wq (b ρ) M1 QF := by
  unfold sIf; rw [wq_bndE]; simp only [q_btrue]
theorem q_sRet {m : XE} : wq (sRet m ρ) M QF = wq (m ρ) M fun d M1 => QF (.rt d) M1 := by
  unfold sRet; rw [wq_bndE]; simp only [q_ret]
theorem q_sRetN : wq (sRetN ρ) M QF = QF (.rt .non) M := wq_of rfl
theorem q_sBrk : wq (sBrk ρ) M QF = QF (.bk ρ) M := wq_of rfl
theorem q_sCnt : wq (sCnt ρ) M QF = QF (.ct ρ) M := wq_of rfl
theorem q_sExpr {m : XE} : wq (sExpr m ρ) M QF = wq (m ρ) M fun _ M1 => QF (.nx ρ) M1 := by
  unfold sExpr; rw [wq_bndE]; simp only [q_ret]
theorem q_gN {i : Nat} {d : D} : wq (gN i d ρ) M QR = QR (ρ.set i (some d)) M := wq_of rfl
theorem q_gAn : wq (gA [] [] ρ) M QR = QR ρ M := wq_of rfl
theorem q_gAc {g : XG} {gs : List XG} {d : D} {ds : List D} : wq (gA (g :: gs) (d :: ds) ρ) M QR = wq (g d ρ) M fun r M1 => wq (gA gs ds r) M1 QR := wq_bndE
theorem q_gT {gs : List XG} {ds : List D} : wq (gT gs (.tup ds) ρ) M QR = (ds.length = gs.length ∧ wq (gA gs ds ρ) M QR) := by
  unfold gT
  by_cases c : ds.length = gs.length
  · simp only [c, if_true, true_and]
  · simp only [c, if_false, false_and]; exact propext ⟨fun ⟨_, _, e, _⟩ => (nomatch e), fun z => False.elim z⟩
theorem q_gS {o i : XE} {v : D} : wq (gS o i v ρ) M QR = wq (o ρ) M fun od M1 => wq (i ρ) M1 fun id M2 => wq (setD od id v) M2 fun _ M3 => QR ρ M3 := by
  unfold gS; rw [wq_bndE]; simp only [wq_bndE, q_ret]
theorem q_sAsg {m : XE} {g : XG} : wq (sAsg m g ρ) M QF = wq (m ρ) M fun d M1 => wq (g d ρ) M1 fun r M2 => QF (.nx r) M2 := by
  unfold sAsg; rw [wq_bndE]; simp only [wq_bndE, q_ret]
theorem q_sPar {i j : Nat} {a b : XE} : wq (sPar i j a b ρ) M QF = wq (a ρ) M fun x M1 => wq (b ρ) M1 fun y M2 => QF (.nx ((ρ.set i (some x)).set j (some y))) M2 := by
  unfold sPar; rw [wq_bndE]; simp only [q_aLc, q_aLn, q_ret]
theorem q_sFor {it : Rho → Mo Src} {g : XG} {b : XS} : wq (sFor it g b ρ) M QF = wq (it ρ) M fun s M1 => wq (chk s) M1 fun _ M2 => wq (loopF g b s s.xs ρ) M2 QF := by
  unfold sFor; rw [wq_bndE]; simp only [wq_bndE]
theorem q_fnB {n : Nat} {body : XS} {ds : List D} : wq (fnB n body ds) M Q = wq (body (ds.map some ++ List.replicate (n - ds.length) none)) M fun r M1 => wq (fnK r) M1 Q := wq_bndE
theorem q_fnrt {d : D} : wq (fnK (.rt d)) M Q = Q d M := wq_of rfl
theorem q_fnnx : wq (fnK (.nx ρ)) M Q = Q .non M := wq_of rfl
end
/-! ### loops -/
section
variable {M : MS} {g : XG} {b : XS} {s : Src} {QF : Fl → MS → Prop}
theorem wq_loopF (I : List D → Rho → MS → Prop) (fin : ∀ ρ M, I [] ρ M → QF (.nx ρ) M)
    (step : ∀ x rest ρ M, I (x :: rest) ρ M → wq (g x ρ) M fun ρ1 M1 => wq (b ρ1) M1 fun fl M2 => match fl with
      | .nx ρ2 => wq (chk s) M2 fun _ M3 => I rest ρ2 M3
      | .ct ρ2 => wq (chk s) M2 fun _ M3 => I rest ρ2 M3
      | .bk ρ2 => QF (.nx ρ2) M2
      | .rt d => QF (.rt d) M2) : ∀ (xs : List D) (ρ : Rho) (M : MS), I xs ρ M → wq (loopF g b s xs ρ) M QF
  | [], ρ, M, h => ⟨_, _, rfl, fin ρ M h⟩
  | x :: xs, ρ, M, h => by
    have hs := step x xs ρ M h
    have e : wq (loopF g b s (x :: xs) ρ) M QF = wq (g x ρ) M fun ρ1 M1 => wq (b ρ1) M1 fun fl M2 => wq (match fl with
      | .nx ρ2 => Mo.bnd (chk s) fun _ => loopF g b s xs ρ2
      | .ct ρ2 => Mo.bnd (chk s) fun _ => loopF g b s xs ρ2
      | .bk ρ2 => Mo.ret (.nx ρ2)
      | .rt d => Mo.ret (.rt d) : Mo Fl) M2 QF := by
      show wq (Mo.bnd _ _) M QF = _
      rw [wq_bndE]; congr 1; funext ρ1 M1; rw [wq_bndE]; try rfl
    rw [e]
    refine wq_mono hs fun ρ1 M1 h1 => wq_mono h1 fun fl M2 h2 => ?_
    cases fl with
    | nx ρ2 => simp only [wq_bndE]; exact wq_mono h2 fun _ M3 h3 => wq_loopF I fin step xs ρ2 M3 h3
    | ct ρ2 => simp only [wq_bndE]; exact wq_mono h2 fun _ M3 h3 => wq_loopF I fin step xs ρ2 M3 h3
    | bk ρ2 => exact ⟨_, _, rfl, h2⟩
    | rt d => exact ⟨_, _, rfl, h2⟩
variable {ct : CT} {t : Rho → Mo Bool} {e : XE} {ρ0 : Rho} {QL : List D → MS → Prop}
theorem wq_loopC (I : List D → List D → MS → Prop)
    (step : ∀ x rest acc M, I (x :: rest) acc M → wq (ct.put x ρ0) M fun ρ1 M1 => wq (t ρ1) M1 fun c M2 => if c = true then wq (e ρ1) M2 fun y M3 => wq (chk s) M3 fun _ M4 => I rest (acc ++ [y]) M4 else wq (chk s) M2 fun _ M4 => I rest acc M4) :
    ∀ (xs acc : List D) (M : MS) (QL : List D → MS → Prop), I xs acc M → (∀ ys M, I [] (acc ++ ys) M → QL ys M) → wq (loopC ct t e s ρ0 xs) M QL
  | [], acc, M, QL, h, fin => ⟨[], M, rfl, fin [] M (by rw [List.append_nil]; exact h)⟩
  | x :: xs, acc, M, QL, h, fin => by
    have hs := step x xs acc M h
    show wq (Mo.bnd _ _) M QL
    rw [wq_bndE]
    refine wq_mono hs fun ρ1 M1 h1 => ?_
    rw [wq_bndE]
    refine wq_mono h1 fun c M2 h2 => ?_
    cases c with
    | true =>
      simp only [if_true, wq_bndE] at h2 ⊢
      refine wq_mono h2 fun y M3 h3 => wq_mono h3 fun _ M4 h4 => wq_loopC I step xs _ M4 _ h4 fun ys M5 h5 => ⟨_, _, rfl, fin _ _ (by rw [List.append_assoc] at h5; exact h5)⟩
    | false =>
      simp only [Bool.false_eq_true, if_false, wq_bndE] at h2 ⊢
      exact wq_mono h2 fun _ M4 h4 => wq_loopC I step xs _ M4 _ h4 fin
theorem q_put1 {i : Nat} {d : D} {QR : Rho → MS → Prop} : wq (CT.put (.one i) d ρ0) M QR = QR (ρ0.set i (some d)) M := wq_of rfl
theorem q_putT {is : List Nat} {ds : List D} {QR : Rho → MS → Prop} : wq (CT.put (.tup is) (.tup ds) ρ0) M QR = (ds.length = is.length ∧ QR (setAll is ds ρ0) M) := by
  unfold CT.put
  by_cases c : ds.length = is.length
  · simp only [c, if_true, true_and]; exact wq_of rfl
  · simp only [c, if_false, false_and]; exact propext ⟨fun ⟨_, _, e, _⟩ => (nomatch e), fun z => False.elim z⟩
theorem q_tAll {ρ : Rho} {QB : Bool → MS → Prop} : wq (tAll ρ) M QB = QB true M := wq_of rfl
/-- a while, by a measure -/
theorem wq_sWh {t : Rho → Mo Bool} {b : XS} (I : Nat → Rho → MS → Prop)
    (step : ∀ n ρ M, I n ρ M → wq (t ρ) M fun c M1 => if c = true then wq (b ρ) M1 fun fl M2 => match fl with
        | .nx ρ2 => ∃ k, k < n ∧ I k ρ2 M2
        | .ct ρ2 => ∃ k, k < n ∧ I k ρ2 M2
        | .bk ρ2 => QF (.nx ρ2) M2
        | .rt d => QF (.rt d) M2
      else QF (.nx ρ) M1) : ∀ (n : Nat) (ρ : Rho) (M : MS), I n ρ M → wq (sWh t b ρ) M QF := by
  intro n
  induction n using Nat.strongRecOn with
  | ind n ih =>
    intro ρ M h
    obtain ⟨c, M1, e1, h1⟩ := step n ρ M h
    cases c with
    | false =>
      simp only [Bool.false_eq_true, if_false] at h1
      exact ⟨_, _, sWh_false e1, h1⟩
    | true =>
      simp only [if_true] at h1
      obtain ⟨fl, M2, e2, h2⟩ := h1
      have key : ∀ r, (match fl with
        | .nx ρ2 => sWh t b ρ2
        | .ct ρ2 => sWh t b ρ2
        | .bk ρ2 => Mo.ret (.nx ρ2)
        | .rt d => Mo.ret (.rt d) : Mo Fl) M2 = some r → sWh t b ρ M = some r := fun r hr => sWh_step (by
        rw [Mo.bnd_of e1]
        simp only [if_true]
        rw [Mo.bnd_of e2]
        exact hr)
      cases fl with
      | nx ρ2 => obtain ⟨k, hk, hI⟩ := h2; obtain ⟨r, M3, e3, q⟩ := ih k hk ρ2 M2 hI; exact ⟨r, M3, key _ e3, q⟩
      | ct ρ2 => obtain ⟨k, hk, hI⟩ := h2; obtain ⟨r, M3, e3, q⟩ := ih k hk ρ2 M2 hI; exact ⟨r, M3, key _ e3, q⟩
      | bk ρ2 => exact ⟨_, _, key _ rfl, h2⟩
      | rt d => exact ⟨_, _, key _ rfl, h2⟩
end
/-! ### operations -/
section
variable {M : MS} {Q : D → MS → Prop} {QS : Src → MS → Prop} {i j : Int}
theorem q_add : wq (addD (.int i) (.int j)) M Q = Q (.int (i + j)) M := wq_of rfl
theorem q_addS {x y : Str} : wq (addD (.str x) (.str y)) M Q = (fits (x.length + y.length) = true ∧ Q (.str (x ++ y)) M) := q_ifret
theorem q_addT {x y : List D} : wq (addD (.tup x) (.tup y)) M Q = (fits (x.length + y.length) = true ∧ Q (.tup (x ++ y)) M) := q_ifret
theorem q_addL {x y : List D} : wq (addD (.lst x) (.lst y)) M Q = (fits (x.length + y.length) = true ∧ Q (.lst (x ++ y)) M) := by
  refine propext ⟨fun ⟨a, M1, e, q⟩ => ?_, fun ⟨h, q⟩ => ⟨_, _, by unfold addD catL; simp only [lstOf]; rw [if_pos h], q⟩⟩
  unfold addD catL at e; simp only [lstOf] at e
  split at e
  · rename_i h; cases e; exact ⟨h, q⟩
  · cases e
theorem q_sub : wq (subD (.int i) (.int j)) M Q = Q (.int (i - j)) M := wq_of rfl
theorem q_mul : wq (mulD (.int i) (.int j)) M Q = (mulOk i j = true ∧ Q (.int (i * j)) M) := q_ifret
theorem q_fdiv : wq (fdivD (.int i) (.int j)) M Q = (divOk j = true ∧ Q (.int (i / j)) M) := q_ifret
theorem q_mod : wq (modD (.int i) (.int j)) M Q = (0 < j ∧ Q (.int (i % j)) M) := q_ifret
theorem q_neg : wq (negD (.int i)) M Q = Q (.int (-i)) M := wq_of rfl
theorem q_lt : wq (ltD (.int i) (.int j)) M Q = Q (.bl (decide (i < j))) M := wq_of rfl
theorem q_le : wq (leD (.int i) (.int j)) M Q = Q (.bl (decide (i ≤ j))) M := wq_of rfl
theorem q_gt : wq (gtD (.int i) (.int j)) M Q = Q (.bl (decide (j < i))) M := wq_of rfl
theorem q_ge : wq (geD (.int i) (.int j)) M Q = Q (.bl (decide (j ≤ i))) M := wq_of rfl
theorem q_eq {d e : D} : wq (eqD d e) M Q = wq (Mo.opt ((eqvD d e).map D.bl)) M Q := rfl
theorem q_ne {d e : D} : wq (neD d e) M Q = wq (Mo.opt ((eqvD d e).map fun b => D.bl (!b))) M Q := rfl
theorem q_isN {d : D} : wq (isND d .non) M Q = Q (.bl (isNonB d)) M := wq_of rfl
theorem q_isntN {d : D} : wq (isntND d .non) M Q = Q (.bl (!isNonB d)) M := wq_of rfl
theorem q_ixT {xs : List D} : wq (ixD (.tup xs) (.int i)) M Q = wq (Mo.opt (atI xs i)) M Q := by
  have : ixD (.tup xs) (.int i) M = Mo.opt (atI xs i) M := by
    unfold ixD Mo.opt; simp only [seqOf]; cases atI xs i <;> rfl
  unfold wq; rw [this]
theorem q_ixL {xs : List D} : wq (ixD (.lst xs) (.int i)) M Q = wq (Mo.opt (atI xs i)) M Q := by
  have : ixD (.lst xs) (.int i) M = Mo.opt (atI xs i) M := by
    unfold ixD Mo.opt; simp only [seqOf, lstOf]; cases atI xs i <;> rfl
  unfold wq; rw [this]
theorem q_lenT {xs : List D} : wq (lenD [.tup xs]) M Q = Q (.int xs.length) M := wq_of rfl
theorem q_lenL {xs : List D} : wq (lenD [.lst xs]) M Q = Q (.int xs.length) M := wq_of rfl
theorem q_lenS {z : Str} : wq (lenD [.str z]) M Q = (fits z.length = true ∧ Q (.int z.length) M) := by
  refine propext ⟨fun ⟨a, M1, e, q⟩ => ?_, fun ⟨h, q⟩ => ⟨_, _, by unfold lenD; simp only; rw [if_pos h], q⟩⟩
  unfold lenD at e; simp only at e
  split at e
  · rename_i h; cases e; exact ⟨h, q⟩
  · cases e
theorem q_lenO {n : Nat} {xs : List D} (h : M[n]? = some (.lst xs)) : wq (lenD [.obj n]) M Q = Q (.int xs.length) M := wq_of (by unfold lenD; simp only [seqOf, lstOf, h])
theorem q_abs : wq (absD [.int i]) M Q = Q (.int (i.natAbs : Int)) M := wq_of rfl
theorem q_int : wq (DL.intD [.int i]) M Q = Q (.int i) M := wq_of rfl
theorem q_listT {xs : List D} : wq (listD [.tup xs]) M Q = Q (.lst xs) M := wq_of rfl
theorem q_listL {xs : List D} : wq (listD [.lst xs]) M Q = Q (.lst xs) M := wq_of rfl
theorem q_listS {ns : List Int} : wq (listD [.scr ns]) M Q = Q (.lst (ns.map D.int)) M := wq_of rfl
theorem q_tupT {xs : List D} : wq (tupleD [.tup xs]) M Q = Q (.tup xs) M := wq_of rfl
theorem q_tupL {xs : List D} : wq (tupleD [.lst xs]) M Q = Q (.tup xs) M := wq_of rfl
theorem q_allL {xs : List D} {bs : List Bool} (h : blsOf xs = some bs) : wq (allD [.lst xs]) M Q = Q (.bl (bs.all id)) M := wq_of (by unfold allD; simp only [lstOf, Option.bind, h])
theorem q_sumL {xs : List D} {bs : List Int} (h : intsOf xs = some bs) : wq (sumD [.lst xs]) M Q = Q (.int bs.sum) M := wq_of (by unfold sumD; simp only [lstOf, Option.bind, h])
theorem q_revT {xs : List D} : wq (revD (.tup xs)) M Q = Q (.tup xs.reverse) M := wq_of rfl
theorem q_revL {xs : List D} : wq (revD (.lst xs)) M Q = Q (.lst xs.reverse) M := wq_of rfl
theorem q_slT {xs : List D} {l h : Option Int} : wq (slD l h (.tup xs)) M Q = Q (.tup (cut xs l h)) M := wq_of rfl
theorem q_slL {xs : List D} {l h : Option Int} : wq (slD l h (.lst xs)) M Q = Q (.lst (cut xs l h)) M := wq_of rfl
theorem q_slS {xs : List Int} {l h : Option Int} : wq (slD l h (.scr xs)) M Q = Q (.lst ((cut xs l h).map D.int)) M := wq_of rfl
theorem q_rng1 : wq (rngD [.int j]) M QS = (small62 j = true ∧ QS (.frz (rngL 0 j)) M) := q_ifret
theorem q_rng2 : wq (rngD [.int i, .int j]) M QS = ((small62 i && small62 j) = true ∧ QS (.frz (rngL i j)) M) := q_ifret
theorem q_srcT {xs : List D} : wq (srcD (.tup xs)) M QS = QS (.frz xs) M := wq_of rfl
theorem q_srcL {xs : List D} : wq (srcD (.lst xs)) M QS = QS (.frz xs) M := wq_of rfl
theorem q_srcS {ns : List Int} : wq (srcD (.scr ns)) M QS = QS (.frz (ns.map D.int)) M := wq_of rfl
theorem q_isi {T : Ty} {d : D} (h : DL.plain d = true) : wq (isiD T d) M Q = Q (.bl (isT T d)) M := wq_of (isi_ok T h M)
theorem q_isiI {T : Ty} {i : Int} : wq (isiD T (.int i)) M Q = Q (.bl (isT T (.int i))) M := wq_of rfl
theorem q_isiB {T : Ty} {i : Bool} : wq (isiD T (.bl i)) M Q = Q (.bl (isT T (.bl i))) M := wq_of rfl
theorem q_isiT {T : Ty} {i : List D} : wq (isiD T (.tup i)) M Q = Q (.bl (isT T (.tup i))) M := wq_of rfl
theorem q_isiL {T : Ty} {i : List D} : wq (isiD T (.lst i)) M Q = Q (.bl (isT T (.lst i))) M := wq_of rfl
theorem q_isiS {T : Ty} {i : Str} : wq (isiD T (.str i)) M Q = Q (.bl (isT T (.str i))) M := wq_of rfl
theorem q_isiN {T : Ty} : wq (isiD T .non) M Q = Q (.bl (isT T .non)) M := wq_of rfl
theorem q_isiE {T : Ty} : wq (isiD T .emp) M Q = Q (.bl (isT T .emp)) M := wq_of rfl
@[simp] theorem frz_xs {xs : List D} : (Src.frz xs).xs = xs := rfl
@[simp] theorem ob_xs {n : Nat} {xs : List D} : (Src.ob n xs).xs = xs := rfl
@[simp] theorem rngL_nat (n : Nat) : rngL 0 (n : Int) = (List.range n).map fun (i : Nat) => D.int i := by unfold rngL; simp
@[simp] theorem wipe_nil {ρ : Rho} : wipeR ρ [] = ρ := rfl
@[simp] theorem wipe_cons {ρ : Rho} {v : Nat} {vs : List Nat} : wipeR ρ (v :: vs) = (wipeR ρ vs).set v none := rfl
end
/-- a mark, so that simp leaves what comes after alone -/
inductive Tg {α : Type} (Q : α → MS → Prop) : Type where
  | mk
def wp {α : Type} (m : Mo α) (M : MS) (Q : α → MS → Prop) (_t : Tg Q := .mk) : Prop := wq m M Q
section
variable {α β : Type} {M M1 : MS} {m : Mo α} {a : α} {f : α → Mo β}
theorem wp_mono {Q R : α → MS → Prop} (h : wp m M Q) (k : ∀ a M', Q a M' → R a M') : wp m M R := wq_mono h k
theorem wp_bndE {Q : β → MS → Prop} : wp (Mo.bnd m f) M Q = wp m M fun a M' => wp (f a) M' Q := wq_bndE
theorem wp_of {Q : α → MS → Prop} (h : m M = some (.ok a, M1)) : wp m M Q = Q a M1 := wq_of h
theorem wp_call {Q : α → MS → Prop} (h : m M = some (.ok a, M1)) (q : Q a M1) : wp m M Q := wq_call h q
theorem wp_eq {Q : α → MS → Prop} (h : wp m M Q) : ∃ a M', m M = some (.ok a, M') ∧ Q a M' := wq_eq h
theorem wp_val {d : α} (h : wp m M fun v M' => v = d ∧ M' = M1) : m M = some (.ok d, M1) := wq_val h
end
section
variable {α β : Type} {M : MS}
@[simp ↓] theorem w_bnd {m : Mo α} {f : α → Mo β} {Q : β → MS → Prop} : wp (Mo.bnd m f) M Q = wp m M fun a M' => wp (f a) M' Q := q_bnd
@[simp ↓] theorem w_ret {a : α} {Q : α → MS → Prop} : wp (Mo.ret a) M Q = Q a M := q_ret
@[simp ↓] theorem w_opt {a : α} {Q : α → MS → Prop} : wp (Mo.opt (some a)) M Q = Q a M := q_opt
@[simp ↓] theorem w_chk {xs : List D} {Q : Unit → MS → Prop} : wp (chk (.frz xs)) M Q = Q () M := q_chk
@[simp ↓] theorem w_chkob {n : Nat} {xs : List D} {Q : Unit → MS → Prop} : wp (chk (.ob n xs)) M Q = (M[n]? = some (.lst xs) ∧ Q () M) := q_chkob
@[simp ↓] theorem w_guard {p : MS → Bool} {Q : Unit → MS → Prop} : wp (guardB p) M Q = (p M = true ∧ Q () M) := q_guard
@[simp ↓] theorem w_noex {m : Mo α} {Q : α → MS → Prop} : wp (noex m) M Q = wp m M Q := q_noex
theorem w_ite {c : Prop} [Decidable c] {x y : Mo α} {Q : α → MS → Prop} : wp (if c then x else y) M Q = if c then wp x M Q else wp y M Q := q_ite
@[simp ↓] theorem w_btrue {c : Bool} {x y : Mo α} {Q : α → MS → Prop} : wp (if c = true then x else y) M Q = if c = true then wp x M Q else wp y M Q := q_btrue
@[simp ↓] theorem w_ifret {c : Prop} [Decidable c] {x : α} {Q : α → MS → Prop} : wp (if c then Mo.ret x else Mo.stop) M Q = (c ∧ Q x M) := q_ifret
/-! ### pieces -/
variable {Q : D → MS → Prop} {QF : Fl → MS → Prop} {QB : Bool → MS → Prop} {QR : Rho → MS → Prop} {QL : List D → MS → Prop} {QO : Option Int → MS → Prop} {QS : Src → MS → Prop} {ρ : Rho}
@[simp ↓] theorem w_eV {i : Nat} : wp (eV i ρ) M Q = wp (Mo.opt (ρ[i]?.join)) M Q := q_eV
@[simp ↓] theorem w_eC {d : D} : wp (eC d ρ) M Q = Q d M := q_eC
@[simp ↓] theorem w_e1 {g : D → Mo D} {a : XE} : wp (e1 g a ρ) M Q = wp (a ρ) M fun x M1 => wp (g x) M1 Q := q_e1
@[simp ↓] theorem w_e2 {g : D → D → Mo D} {a b : XE} : wp (e2 g a b ρ) M Q = wp (a ρ) M fun x M1 => wp (b ρ) M1 fun y M2 => wp (g x y) M2 Q := q_e2
@[simp ↓] theorem w_aLn : wp (aL [] ρ) M QL = QL [] M := q_aLn
@[simp ↓] theorem w_aLc {a : XE} {as : List XE} : wp (aL (a :: as) ρ) M QL = wp (a ρ) M fun x M1 => wp (aL as ρ) M1 fun xs M2 => QL (x :: xs) M2 := q_aLc
@[simp ↓] theorem w_eTup {as : List XE} : wp (eTup as ρ) M Q = wp (aL as ρ) M fun ds M1 => Q (.tup ds) M1 := q_eTup
@[simp ↓] theorem w_eLst {as : List XE} : wp (eLst as ρ) M Q = wp (aL as ρ) M fun ds M1 => Q (.lst ds) M1 := q_eLst
@[simp ↓] theorem w_newO {mo : MO} : wp (newO mo) M Q = Q (.obj M.length) (M ++ [mo]) := q_newO
@[simp ↓] theorem w_eLstM {as : List XE} : wp (eLstM as ρ) M Q = wp (aL as ρ) M fun ds M1 => Q (.obj M1.length) (M1 ++ [.lst ds]) := q_eLstM
@[simp ↓] theorem w_eB {g : List D → Mo D} {as : List XE} : wp (eB g as ρ) M Q = wp (aL as ρ) M fun ds M1 => wp (g ds) M1 Q := q_eB
@[simp ↓] theorem w_tV {m : XE} : wp (tV m ρ) M QB = wp (m ρ) M fun d M1 => wp (bOf d) M1 QB := q_tV
@[simp ↓] theorem w_bOf {b : Bool} : wp (bOf (.bl b)) M QB = QB b M := q_bOf
@[simp ↓] theorem w_tAn {a b : Rho → Mo Bool} : wp (tAn a b ρ) M QB = wp (a ρ) M fun c M1 => if c = true then wp (b ρ) M1 QB else QB false M1 := q_tAn
@[simp ↓] theorem w_tOrr {a b : Rho → Mo Bool} : wp (tOrr a b ρ) M QB = wp (a ρ) M fun c M1 => if c = true then QB true M1 else wp (b ρ) M1 QB := q_tOrr
@[simp ↓] theorem w_tNo {a : Rho → Mo Bool} : wp (tNo a ρ) M QB = wp (a ρ) M fun c M1 => QB (!c) M1 := q_tNo
@[simp ↓] theorem w_eIf {t : Rho → Mo Bool} {a b : XE} : wp (eIf t a b ρ) M Q = wp (t ρ) M fun c M1 => if c = true then wp (a ρ) M1 Q else wp (b ρ) M1 Q := q_eIf
@[simp ↓] theorem w_eAn {a b : XE} : wp (eAn a b ρ) M Q = wp (a ρ) M fun d M1 => wp (bOf d) M1 fun c M2 => if c = true then wp (b ρ) M2 Q else Q (.bl false) M2 := q_eAn
@[simp ↓] theorem w_eOrr {a b : XE} : wp (eOrr a b ρ) M Q = wp (a ρ) M fun d M1 => wp (bOf d) M1 fun c M2 => if c = true then Q (.bl true) M2 else wp (b ρ) M2 Q := q_eOrr
@[simp ↓] theorem w_eNo {a : XE} : wp (eNo a ρ) M Q = wp (a ρ) M fun d M1 => wp (bOf d) M1 fun c M2 => Q (.bl (!c)) M2 := q_eNo
@[simp ↓] theorem w_eCh {f g : D → D → Mo D} {a b c : XE} : wp (eCh f g a b c ρ) M Q = wp (a ρ) M fun x M1 => wp (b ρ) M1 fun y M2 => wp (f x y) M2 fun z M3 => wp (bOf z) M3 fun k M4 => if k = true then wp (c ρ) M4 fun u M5 => wp (g y u) M5 Q else Q (.bl false) M4 := q_eCh
@[simp ↓] theorem w_pNo : wp (pNo ρ) M QO = QO none M := q_pNo
@[simp ↓] theorem w_pSo {m : XE} : wp (pSo m ρ) M QO = wp (m ρ) M fun d M1 => match d with | .int i => QO (some i) M1 | _ => False := q_pSo
@[simp ↓] theorem w_eSl {a : XE} {lo hi : XP} : wp (eSl a lo hi ρ) M Q = wp (a ρ) M fun d M1 => wp (lo ρ) M1 fun l M2 => wp (hi ρ) M2 fun h M3 => wp (slD l h d) M3 Q := q_eSl
@[simp ↓] theorem w_eLc {it : Rho → Mo Src} {g : CT} {t : Rho → Mo Bool} {e : XE} {own : List Nat} : wp (eLc it g t e own ρ) M Q = wp (it ρ) M fun s M1 => wp (chk s) M1 fun _ M2 => fits s.xs.length = true ∧ wp (loopC g t e s (wipeR ρ own) s.xs) M2 fun ys M3 => Q (.lst ys) M3 := q_eLc
@[simp ↓] theorem w_iS {m : XE} : wp (iS m ρ) M QS = wp (m ρ) M fun d M1 => wp (srcD d) M1 QS := q_iS
@[simp ↓] theorem w_iR {ms : List XE} : wp (iR ms ρ) M QS = wp (aL ms ρ) M fun d M1 => wp (rngD d) M1 QS := q_iR
@[simp ↓] theorem w_eM {pre : MS → D → Bool} {g : D → List D → Mo D} {mo : XE} {ms : List XE} : wp (eM pre g mo ms ρ) M Q = wp (mo ρ) M fun o M1 => pre M1 o = true ∧ wp (aL ms ρ) M1 fun ds M2 => wp (g o ds) M2 Q := q_eM
@[simp ↓] theorem w_sNext : wp (sNext ρ) M QF = QF (.nx ρ) M := q_sNext
@[simp ↓] theorem w_seqnx {b : XS} : wp (seqK b (.nx ρ)) M QF = wp (b ρ) M QF := q_seqnx
@[simp ↓] theorem w_seqrt {b : XS} {d : D} : wp (seqK b (.rt d)) M QF = QF (.rt d) M := q_seqrt
@[simp ↓] theorem w_seqbk {b : XS} : wp (seqK b (.bk ρ)) M QF = QF (.bk ρ) M := q_seqbk
@[simp ↓] theorem w_seqct {b : XS} : wp (seqK b (.ct ρ)) M QF = QF (.ct ρ) M := q_seqct
@[simp ↓] theorem w_sSeq {a b : XS} : wp (sSeq a b ρ) M QF = wp (a ρ) M fun r M1 => wp (seqK b r) M1 QF := q_sSeq
@[simp ↓] theorem w_sIf {t : Rho → Mo Bool} {a b : XS} : wp (sIf t a b ρ) M QF = wp (t ρ) M fun c M1 => if c = true then wp (a ρ) M1 QF else wp (b ρ) M1 QF := q_sIf
@[simp ↓] theorem w_sRet {m : XE} : wp (sRet m ρ) M QF = wp (m ρ) M fun d M1 => QF (.rt d) M1 := q_sRet
@[simp ↓] theorem w_sRetN : wp (sRetN ρ) M QF = QF (.rt .non) M := q_sRetN
@[simp ↓] theorem w_sBrk : wp (sBrk ρ) M QF = QF (.bk ρ) M := q_sBrk
@[simp ↓] theorem w_sCnt : wp (sCnt ρ) M QF = QF (.ct ρ) M := q_sCnt
@[simp ↓] theorem w_sExpr {m : XE} : wp (sExpr m ρ) M QF = wp (m ρ) M fun _ M1 => QF (.nx ρ) M1 := q_sExpr
@[simp ↓] theorem w_gN {i : Nat} {d : D} : wp (gN i d ρ) M QR = QR (ρ.set i (some d)) M := q_gN
@[simp ↓] theorem w_gAn : wp (gA [] [] ρ) M QR = QR ρ M := q_gAn
@[simp ↓] theorem w_gAc {g : XG} {gs : List XG} {d : D} {ds : List D} : wp (gA (g :: gs) (d :: ds) ρ) M QR = wp (g d ρ) M fun r M1 => wp (gA gs ds r) M1 QR := q_gAc
@[simp ↓] theorem w_gT {gs : List XG} {ds : List D} : wp (gT gs (.tup ds) ρ) M QR = (ds.length = gs.length ∧ wp (gA gs ds ρ) M QR) := q_gT
@[simp ↓] theorem w_gS {o i : XE} {v : D} : wp (gS o i v ρ) M QR = wp (o ρ) M fun od M1 => wp (i ρ) M1 fun id M2 => wp (setD od id v) M2 fun _ M3 => QR ρ M3 := q_gS
@[simp ↓] theorem w_sAsg {m : XE} {g : XG} : wp (sAsg m g ρ) M QF = wp (m ρ) M fun d M1 => wp (g d ρ) M1 fun r M2 => QF (.nx r) M2 := q_sAsg
@[simp ↓] theorem w_sPar {i j : Nat} {a b : XE} : wp (sPar i j a b ρ) M QF = wp (a ρ) M fun x M1 => wp (b ρ) M1 fun y M2 => QF (.nx ((ρ.set i (some x)).set j (some y))) M2 := q_sPar
@[simp ↓] theorem w_sFor {it : Rho → Mo Src} {g : XG} {b : XS} : wp (sFor it g b ρ) M QF = wp (it ρ) M fun s M1 => wp (chk s) M1 fun _ M2 => wp (loopF g b s s.xs ρ) M2 QF := q_sFor
@[simp ↓] theorem w_fnB {n : Nat} {body : XS} {ds : List D} : wp (fnB n body ds) M Q = wp (body (ds.map some ++ List.replicate (n - ds.length) none)) M fun r M1 => wp (fnK r) M1 Q := q_fnB
@[simp ↓] theorem w_fnrt {d : D} : wp (fnK (.rt d)) M Q = Q d M := q_fnrt
@[simp ↓] theorem w_fnnx : wp (fnK (.nx ρ)) M Q = Q .non M := q_fnnx
end
/-! ### loops -/
section
variable {M : MS} {g : XG} {b : XS} {s : Src} {QF : Fl → MS → Prop}
theorem wp_loopF (I : List D → Rho → MS → Prop) (fin : ∀ ρ M, I [] ρ M → QF (.nx ρ) M)
    (step : ∀ x rest ρ M, I (x :: rest) ρ M → wp (g x ρ) M fun ρ1 M1 => wp (b ρ1) M1 fun fl M2 => match fl with
      | .nx ρ2 => wp (chk s) M2 fun _ M3 => I rest ρ2 M3
      | .ct ρ2 => wp (chk s) M2 fun _ M3 => I rest ρ2 M3
      | .bk ρ2 => QF (.nx ρ2) M2
      | .rt d => QF (.rt d) M2) : ∀ (xs : List D) (ρ : Rho) (M : MS), I xs ρ M → wp (loopF g b s xs ρ) M QF := wq_loopF I fin step
variable {ct : CT} {t : Rho → Mo Bool} {e : XE} {ρ0 : Rho} {QL : List D → MS → Prop}
theorem wp_loopC (I : List D → List D → MS → Prop)
    (step : ∀ x rest acc M, I (x :: rest) acc M → wp (ct.put x ρ0) M fun ρ1 M1 => wp (t ρ1) M1 fun c M2 => if c = true then wp (e ρ1) M2 fun y M3 => wp (chk s) M3 fun _ M4 => I rest (acc ++ [y]) M4 else wp (chk s) M2 fun _ M4 => I rest acc M4) :
    ∀ (xs acc : List D) (M : MS) (QL : List D → MS → Prop), I xs acc M → (∀ ys M, I [] (acc ++ ys) M → QL ys M) → wp (loopC ct t e s ρ0 xs) M QL := wq_loopC I step
@[simp ↓] theorem w_put1 {i : Nat} {d : D} {QR : Rho → MS → Prop} : wp (CT.put (.one i) d ρ0) M QR = QR (ρ0.set i (some d)) M := q_put1
@[simp ↓] theorem w_putT {is : List Nat} {ds : List D} {QR : Rho → MS → Prop} : wp (CT.put (.tup is) (.tup ds) ρ0) M QR = (ds.length = is.length ∧ QR (setAll is ds ρ0) M) := q_putT
@[simp ↓] theorem w_tAll {ρ : Rho} {QB : Bool → MS → Prop} : wp (tAll ρ) M QB = QB true M := q_tAll
/-- a while, by a measure -/
theorem wp_sWh {t : Rho → Mo Bool} {b : XS} (I : Nat → Rho → MS → Prop)
    (step : ∀ n ρ M, I n ρ M → wp (t ρ) M fun c M1 => if c = true then wp (b ρ) M1 fun fl M2 => match fl with
        | .nx ρ2 => ∃ k, k < n ∧ I k ρ2 M2
        | .ct ρ2 => ∃ k, k < n ∧ I k ρ2 M2
        | .bk ρ2 => QF (.nx ρ2) M2
        | .rt d => QF (.rt d) M2
      else QF (.nx ρ) M1) : ∀ (n : Nat) (ρ : Rho) (M : MS), I n ρ M → wp (sWh t b ρ) M QF := wq_sWh I step
end
/-! ### operations -/
section
variable {M : MS} {Q : D → MS → Prop} {QS : Src → MS → Prop} {i j : Int}
@[simp ↓] theorem w_add : wp (addD (.int i) (.int j)) M Q = Q (.int (i + j)) M := q_add
@[simp ↓] theorem w_addS {x y : Str} : wp (addD (.str x) (.str y)) M Q = (fits (x.length + y.length) = true ∧ Q (.str (x ++ y)) M) := q_addS
@[simp ↓] theorem w_addT {x y : List D} : wp (addD (.tup x) (.tup y)) M Q = (fits (x.length + y.length) = true ∧ Q (.tup (x ++ y)) M) := q_addT
@[simp ↓] theorem w_addL {x y : List D} : wp (addD (.lst x) (.lst y)) M Q = (fits (x.length + y.length) = true ∧ Q (.lst (x ++ y)) M) := q_addL
@[simp ↓] theorem w_sub : wp (subD (.int i) (.int j)) M Q = Q (.int (i - j)) M := q_sub
@[simp ↓] theorem w_mul : wp (mulD (.int i) (.int j)) M Q = (mulOk i j = true ∧ Q (.int (i * j)) M) := q_mul
@[simp ↓] theorem w_fdiv : wp (fdivD (.int i) (.int j)) M Q = (divOk j = true ∧ Q (.int (i / j)) M) := q_fdiv
@[simp ↓] theorem w_mod : wp (modD (.int i) (.int j)) M Q = (0 < j ∧ Q (.int (i % j)) M) := q_mod
@[simp ↓] theorem w_neg : wp (negD (.int i)) M Q = Q (.int (-i)) M := q_neg
@[simp ↓] theorem w_lt : wp (ltD (.int i) (.int j)) M Q = Q (.bl (decide (i < j))) M := q_lt
@[simp ↓] theorem w_le : wp (leD (.int i) (.int j)) M Q = Q (.bl (decide (i ≤ j))) M := q_le
@[simp ↓] theorem w_gt : wp (gtD (.int i) (.int j)) M Q = Q (.bl (decide (j < i))) M := q_gt
@[simp ↓] theorem w_ge : wp (geD (.int i) (.int j)) M Q = Q (.bl (decide (j ≤ i))) M := q_ge
@[simp ↓] theorem w_eq {d e : D} : wp (eqD d e) M Q = wp (Mo.opt ((eqvD d e).map D.bl)) M Q := q_eq
@[simp ↓] theorem w_ne {d e : D} : wp (neD d e) M Q = wp (Mo.opt ((eqvD d e).map fun b => D.bl (!b))) M Q := q_ne
@[simp ↓] theorem w_isN {d : D} : wp (isND d .non) M Q = Q (.bl (isNonB d)) M := q_isN
@[simp ↓] theorem w_isntN {d : D} : wp (isntND d .non) M Q = Q (.bl (!isNonB d)) M := q_isntN
@[simp ↓] theorem w_ixT {xs : List D} : wp (ixD (.tup xs) (.int i)) M Q = wp (Mo.opt (atI xs i)) M Q := q_ixT
@[simp ↓] theorem w_ixL {xs : List D} : wp (ixD (.lst xs) (.int i)) M Q = wp (Mo.opt (atI xs i)) M Q := q_ixL
@[simp ↓] theorem w_lenT {xs : List D} : wp (lenD [.tup xs]) M Q = Q (.int xs.length) M := q_lenT
@[simp ↓] theorem w_lenL {xs : List D} : wp (lenD [.lst xs]) M Q = Q (.int xs.length) M := q_lenL
@[simp ↓] theorem w_lenS {z : Str} : wp (lenD [.str z]) M Q = (fits z.length = true ∧ Q (.int z.length) M) := q_lenS
@[simp ↓] theorem w_lenO {n : Nat} {xs : List D} (h : M[n]? = some (.lst xs)) : wp (lenD [.obj n]) M Q = Q (.int xs.length) M := q_lenO h
@[simp ↓] theorem w_abs : wp (absD [.int i]) M Q = Q (.int (i.natAbs : Int)) M := q_abs
@[simp ↓] theorem w_int : wp (DL.intD [.int i]) M Q = Q (.int i) M := q_int
@[simp ↓] theorem w_listT {xs : List D} : wp (listD [.tup xs]) M Q = Q (.lst xs) M := q_listT
@[simp ↓] theorem w_listL {xs : List D} : wp (listD [.lst xs]) M Q = Q (.lst xs) M := q_listL
@[simp ↓] theorem w_listS {ns : List Int} : wp (listD [.scr ns]) M Q = Q (.lst (ns.map D.int)) M := q_listS
@[simp ↓] theorem w_tupT {xs : List D} : wp (tupleD [.tup xs]) M Q = Q (.tup xs) M := q_tupT
@[simp ↓] theorem w_tupL {xs : List D} : wp (tupleD [.lst xs]) M Q = Q (.tup xs) M := q_tupL
@[simp ↓] theorem w_allL {xs : List D} {bs : List Bool} (h : blsOf xs = some bs) : wp (allD [.lst xs]) M Q = Q (.bl (bs.all id)) M := q_allL h
@[simp ↓] theorem w_sumL {xs : List D} {bs : List Int} (h : intsOf xs = some bs) : wp (sumD [.lst xs]) M Q = Q (.int bs.sum) M := q_sumL h
@[simp ↓] theorem w_revT {xs : List D} : wp (revD (.tup xs)) M Q = Q (.tup xs.reverse) M := q_revT
@[simp ↓] theorem w_revL {xs : List D} : wp (revD (.lst xs)) M Q = Q (.lst xs.reverse) M := q_revL
@[simp ↓] theorem w_slT {xs : List D} {l h : Option Int} : wp (slD l h (.tup xs)) M Q = Q (.tup (cut xs l h)) M := q_slT
@[simp ↓] theorem w_slL {xs : List D} {l h : Option Int} : wp (slD l h (.lst xs)) M Q = Q (.lst (cut xs l h)) M := q_slL
@[simp ↓] theorem w_slS {xs : List Int} {l h : Option Int} : wp (slD l h (.scr xs)) M Q = Q (.lst ((cut xs l h).map D.int)) M := q_slS
@[simp ↓] theorem w_rng1 : wp (rngD [.int j]) M QS = (small62 j = true ∧ QS (.frz (rngL 0 j)) M) := q_rng1
@[simp ↓] theorem w_rng2 : wp (rngD [.int i, .int j]) M QS = ((small62 i && small62 j) = true ∧ QS (.frz (rngL i j)) M) := q_rng2
@[simp ↓] theorem w_srcT {xs : List D} : wp (srcD (.tup xs)) M QS = QS (.frz xs) M := q_srcT
@[simp ↓] theorem w_srcL {xs : List D} : wp (srcD (.lst xs)) M QS = QS (.frz xs) M := q_srcL
@[simp ↓] theorem w_srcS {ns : List Int} : wp (srcD (.scr ns)) M QS = QS (.frz (ns.map D.int)) M := q_srcS
@[simp ↓] theorem w_isi {T : Ty} {d : D} (h : DL.plain d = true) : wp (isiD T d) M Q = Q (.bl (isT T d)) M := q_isi h
@[simp ↓] theorem w_isiI {T : Ty} {i : Int} : wp (isiD T (.int i)) M Q = Q (.bl (isT T (.int i))) M := q_isiI
@[simp ↓] theorem w_isiB {T : Ty} {i : Bool} : wp (isiD T (.bl i)) M Q = Q (.bl (isT T (.bl i))) M := q_isiB
@[simp ↓] theorem w_isiT {T : Ty} {i : List D} : wp (isiD T (.tup i)) M Q = Q (.bl (isT T (.tup i))) M := q_isiT
@[simp ↓] theorem w_isiL {T : Ty} {i : List D} : wp (isiD T (.lst i)) M Q = Q (.bl (isT T (.lst i))) M := q_isiL
@[simp ↓] theorem w_isiS {T : Ty} {i : Str} : wp (isiD T (.str i)) M Q = Q (.bl (isT T (.str i))) M := q_isiS
@[simp ↓] theorem w_isiN {T : Ty} : wp (isiD T .non) M Q = Q (.bl (isT T .non)) M := q_isiN
@[simp ↓] theorem w_isiE {T : Ty} : wp (isiD T .emp) M Q = Q (.bl (isT T .emp)) M := q_isiE
end
end DL

namespace DL
open PySem PySem.Spec PyProof.Rows L2
section
variable {M : MS} {g : XG} {b : XS} {s : List D} {QF : Fl → MS → Prop} {ct : CT} {t : Rho → Mo Bool} {e : XE} {ρ0 : Rho} {QL : List D → MS → Prop}
/-- a for over a fixed list, by the number of the round -/
theorem wp_forI {xs0 : List D} (I : Nat → Rho → MS → Prop) (fin : ∀ ρ M, I xs0.length ρ M → QF (.nx ρ) M)
    (step : ∀ (i : Nat) x ρ M, xs0[i]? = some x → I i ρ M → wp (g x ρ) M fun ρ1 M1 => wp (b ρ1) M1 fun fl M2 => match fl with
      | .nx ρ2 => I (i + 1) ρ2 M2
      | .ct ρ2 => I (i + 1) ρ2 M2
      | .bk ρ2 => QF (.nx ρ2) M2
      | .rt d => QF (.rt d) M2) {ρ : Rho} {M : MS} (h : I 0 ρ M) : wp (loopF g b (.frz s) xs0 ρ) M QF := by
  refine wp_loopF (fun rest ρ M => ∃ i, i ≤ xs0.length ∧ rest = xs0.drop i ∧ I i ρ M) ?_ ?_ xs0 ρ M ⟨0, Nat.zero_le _, rfl, h⟩
  · rintro ρ M ⟨i, hi, hr, hI⟩
    have : xs0.length ≤ i := by simpa using hr.symm
    have : i = xs0.length := by omega
    subst this
    exact fin ρ M hI
  · rintro x rest ρ M ⟨i, hi, hr, hI⟩
    have hx : xs0[i]? = some x := by
      have := congrArg (fun l => l[0]?) hr.symm
      simpa using this
    have hd2 : rest = xs0.drop (i + 1) := by
      have := congrArg List.tail hr
      simpa [List.tail_drop] using this
    have hlt := (List.getElem?_eq_some_iff.mp hx).1
    refine wp_mono (step i x ρ M hx hI) fun ρ1 M1 h1 => wp_mono h1 fun fl M2 h2 => ?_
    cases fl with
    | nx ρ2 => exact wp_call (chk_frz _ _) ⟨i + 1, hlt, hd2, h2⟩
    | ct ρ2 => exact wp_call (chk_frz _ _) ⟨i + 1, hlt, hd2, h2⟩
    | bk ρ2 => exact h2
    | rt d => exact h2
theorem wp_comI {xs0 : List D} (I : Nat → List D → MS → Prop)
    (step : ∀ (i : Nat) x acc M, xs0[i]? = some x → I i acc M → wp (ct.put x ρ0) M fun ρ1 M1 => wp (t ρ1) M1 fun c M2 => if c = true then wp (e ρ1) M2 fun y M3 => I (i + 1) (acc ++ [y]) M3 else I (i + 1) acc M2)
    {M : MS} (h : I 0 [] M) (fin : ∀ ys M, I xs0.length ys M → QL ys M) : wp (loopC ct t e (.frz s) ρ0 xs0) M QL := by
  refine wp_loopC (fun rest acc M => ∃ i, i ≤ xs0.length ∧ rest = xs0.drop i ∧ I i acc M) ?_ xs0 [] M QL ⟨0, Nat.zero_le _, rfl, h⟩ ?_
  · rintro x rest acc M ⟨i, hi, hr, hI⟩
    have hx : xs0[i]? = some x := by
      have := congrArg (fun l => l[0]?) hr.symm
      simpa using this
    have hd2 : rest = xs0.drop (i + 1) := by
      have := congrArg List.tail hr
      simpa [List.tail_drop] using this
    have hlt := (List.getElem?_eq_some_iff.mp hx).1
    refine wp_mono (step i x acc M hx hI) fun ρ1 M1 h1 => wp_mono h1 fun c M2 h2 => ?_
    cases c with
    | true =>
      simp only [if_true] at h2 ⊢
      exact wp_mono h2 fun y M3 h3 => wp_call (chk_frz _ _) ⟨i + 1, hlt, hd2, h3⟩
    | false =>
      simp only [Bool.false_eq_true, if_false] at h2 ⊢
      exact wp_call (chk_frz _ _) ⟨i + 1, hlt, hd2, h2⟩
  · rintro ys M ⟨i, hi, hr, hI⟩
    have : xs0.length ≤ i := by simpa using hr.symm
    have : i = xs0.length := by omega
    subst this
    exact fin _ _ hI
end
section
variable {α : Type} {xs : List α}
@[simp] theorem atI_lit {n : Nat} : atI xs (no_index (@OfNat.ofNat Int n _)) = xs[n]? := by
  show atI xs ((n : Nat) : Int) = _
  unfold atI ixN
  rw [if_pos (by omega)]
  by_cases h : n < xs.length
  · rw [if_pos (by omega)]; simp
  · rw [if_neg (by omega)]; simp; omega
@[simp] theorem atI_nat {n : Nat} : atI xs (n : Int) = xs[n]? := atI_lit
@[simp] theorem sIx_lit {n d k : Nat} : HT.sIx n d (some (no_index (@OfNat.ofNat Int k _))) = min k n := HT.sIx_nat n d k
@[simp] theorem sIx_nat' {n d k : Nat} : HT.sIx n d (some (k : Int)) = min k n := HT.sIx_nat n d k
@[simp] theorem sIx_non {n d : Nat} : HT.sIx n d none = d := rfl
end
theorem small62_nat {n : Nat} (h : n ≤ 1000000) : small62 (n : Int) = true := by
  unfold small62
  simp
  omega
@[simp ↓] theorem w_pow {i j : Int} {M : MS} {Q : D → MS → Prop} : wp (powD (.int i) (.int j)) M Q = (powOk i j = true ∧ Q (.int (i ^ j.toNat)) M) := q_ifret
end DL
namespace DL
open PySem PySem.Spec PyProof.Rows L2
theorem wp_seq {a b : XS} {ρ ρ' : Rho} {M M' : MS} {Q : Fl → MS → Prop} (h : wp (a ρ) M fun r M1 => r = .nx ρ' ∧ M1 = M') (k : wp (b ρ') M' Q) : wp (sSeq a b ρ) M Q := by
  rw [w_sSeq]
  refine wp_mono h ?_
  rintro r M1 ⟨rfl, rfl⟩
  exact k
end DL

/-! DL: zip of two lists or tuples. -/
namespace DL
open PySem PySem.Spec PyProof.Rows L2
/-- true: a tuple; false: a list -/
def SqK (K : PySem.W.Frag) : Bool → Hp → Addr → List V → Prop
  | true => SqT K
  | false => SqL K
def ItK : Bool → Heap → Addr → Addr → Nat → Prop
  | true => Heap.IsTupleIter
  | false => Heap.IsListIter
def IsK : Bool → Heap → Addr → Array Value → Prop
  | true => Heap.IsTuple
  | false => Heap.IsList
def cnK : Bool → String
  | true => "tuple_iterator"
  | false => "list_iterator"
theorem inv_sqk {X : Cx} {pins : List (Addr × Obj)} {σ : L2.St} {H : Hp} {s : Shared} {k : Bool} {a : Addr} {xs : List V} (I : Inv X pins σ H s) (h : SqK X.K k H a xs) : ∃ its : List Value, Vals xs its ∧ IsK k s.heap a its.toArray ∧ a < s.heap.objs.size := by
  cases k with
  | true =>
    obtain ⟨its, rv, p, _⟩ := I.tuple h
    obtain ⟨o, ho, hr⟩ := id p
    exact ⟨its, rv, ⟨o, ho, hr⟩, Heap.lt_size ho⟩
  | false =>
    obtain ⟨its, rv, p, _⟩ := I.list h
    exact ⟨its, rv, p.isList, p.lt⟩
theorem sqk_inj {X : Cx} {pins : List (Addr × Obj)} {σ : L2.St} {H : Hp} {s : Shared} {k : Bool} {a : Addr} {xs ys : List V} (I : Inv X pins σ H s) (h : SqK X.K k H a xs) (g : SqK X.K k H a ys) : xs = ys := by
  cases k with
  | true => exact I.tuple_inj h g
  | false => exact I.list_inj h g
theorem draws_k {prog : Program} {w : World} {A : Around} (k : Bool) (hh : A.handled = none) (it l : Addr) (hne : l ≠ it) (items : Array Value) :
    Draws prog w A it [it, l] items.size (fun i v => items[i]? = some v) (fun i h => ItK k h it l i ∧ IsK k h l items) := by
  cases k with
  | true => exact Draws.tuple hh it l hne items
  | false => exact Draws.list hh it l hne items
theorem itk_obj {k : Bool} {h : Heap} {it l : Addr} {i : Nat} (q : ItK k h it l i) : ∃ o, h.get? it = some o ∧ ∀ v, o.data ≠ .cell v := by
  cases k with
  | true => obtain ⟨o, e, _, d⟩ := q; exact ⟨o, e, fun v z => by rw [d] at z; cases z⟩
  | false => obtain ⟨o, e, _, d⟩ := q; exact ⟨o, e, fun v z => by rw [d] at z; cases z⟩
theorem itk_at {k : Bool} {h h' : Heap} {it l : Addr} {i : Nat} (q : ItK k h it l i) (f : ∀ o, h.get? it = some o → h'.get? it = some o) : ItK k h' it l i := by
  cases k with
  | true => obtain ⟨o, e, r⟩ := q; exact ⟨o, f o e, r⟩
  | false => obtain ⟨o, e, r⟩ := q; exact ⟨o, f o e, r⟩
theorem isk_at {k : Bool} {h h' : Heap} {l : Addr} {xs : Array Value} (q : IsK k h l xs) (f : ∀ o, h.get? l = some o → h'.get? l = some o) : IsK k h' l xs := by
  cases k with
  | true => obtain ⟨o, e, r⟩ := q; exact ⟨o, f o e, r⟩
  | false => obtain ⟨o, e, r⟩ := q; exact ⟨o, f o e, r⟩
theorem sep_of {z TI TO i1 i2 l1 l2 : Addr} (D : ZipApart z TI TO i1 i2 l1 l2) : ZipSep2 z TI TO i1 i2 [i1, l1] [i2, l2] where
  TIz := D.TIz
  TOz := D.TOz
  TITO := D.TITO
  TIi1 := D.TIi1
  mem1 := by simp
  zf1 := by simp [D.i1z.symm, D.l1z.symm]
  Tf1 := by simp [D.TOi1, D.l1TO.symm]
  TIi2 := D.TIi2
  mem2 := by simp
  zf2 := by simp [D.i2z.symm, D.l2z.symm]
  Tf2 := by simp [D.TOi2, D.l2TO.symm]
  sep1_2 := by simp [D.i12, D.l2i1.symm]
  sep2_1 := by simp [D.i12.symm, D.l1i2.symm]
/-- pairs of two sequences, each of its kind -/
def ItzM (K : PySem.W.Frag) (k1 k2 : Bool) (a b : Addr) : It where
  go := fun i H => ∃ (xs ys : List V) (x y : V), SqK K k1 H a xs ∧ SqK K k2 H b ys ∧ xs[i]? = some x ∧ ys[i]? = some y
  yld := fun i H v H' => ∃ T x y, v = .ref T ∧ H T = none ∧ H' = upd H T (.tup [x, y]) ∧ (∀ xs, SqK K k1 H a xs → xs[i]? = some x) ∧ ∀ ys, SqK K k2 H b ys → ys[i]? = some y
  stop := fun i H => ∃ xs ys : List V, SqK K k1 H a xs ∧ SqK K k2 H b ys ∧ i ≤ xs.length ∧ i ≤ ys.length ∧ (i = xs.length ∨ i = ys.length)
theorem turn_zipM {P : Program} {w : World} {K : PySem.W.Frag} {tg : List Expr} {kk : Nat} {tp : Pos} {k1 k2 : Bool} {a b z TI TO i1 i2 : Addr} (D : ZipApart z TI TO i1 i2 a b) :
    Turn P w K (.Tuple tg kk tp) (ItzM K k1 k2 a b) [z, TI, TO, i1, i2] z (fun i h => IsZip h z TI TO .none ∧ IsPair h TI (.ref i1) (.ref i2) ∧ (∃ x y, IsPair h TO x y) ∧ ItK k1 h i1 a i ∧ ItK k2 h i2 b i) where
  mem := by simp
  obj := fun i h st c hm => by
    obtain ⟨s1, s2, ⟨x, y, s3⟩, s4, s5⟩ := st
    have cs : c = z ∨ c = TI ∨ c = TO ∨ c = i1 ∨ c = i2 := by simpa using hm
    rcases cs with rfl | rfl | rfl | rfl | rfl
    · exact ⟨_, s1, fun v q => nomatch q⟩
    · exact ⟨_, s2, fun v q => nomatch q⟩
    · exact ⟨_, s3, fun v q => nomatch q⟩
    · exact itk_obj s4
    · exact itk_obj s5
  keep := fun i h h' st f => by
    obtain ⟨s1, s2, ⟨x, y, s3⟩, s4, s5⟩ := st
    exact ⟨f z (by simp) _ s1, f TI (by simp) _ s2, ⟨x, y, f TO (by simp) _ s3⟩, itk_at s4 fun o q => f i1 (by simp) o q, itk_at s5 fun o q => f i2 (by simp) o q⟩
  item := by
    intro X hP hw hK hc i pins s σ H E I hf st hg
    subst hP hw hK
    obtain ⟨s1, s2, ⟨x0, y0, s3⟩, s4, s5⟩ := st
    obtain ⟨xs, ys, x, y, qx, qy, ex, ey⟩ := hg
    obtain ⟨m1, r1, p1, _⟩ := inv_sqk I qx
    obtain ⟨m2, r2, p2, _⟩ := inv_sqk I qy
    obtain ⟨u1, e1, ru1⟩ := r1.get ex
    obtain ⟨u2, e2, ru2⟩ := r2.get ey
    have zl : z < s.heap.objs.size := Heap.lt_size s1
    have hh : X.A.in1.handled = none := I.ok.hd hc
    refine wpAny_pyNext_zipD2_item (sep_of D) (draws_k (prog := X.prog) (w := X.w) k1 hh i1 a D.l1i1 m1.toArray) (draws_k (prog := X.prog) (w := X.w) k2 hh i2 b D.l2i2 m2.toArray) s1 s2 s3 ⟨s4, p1⟩ ⟨s5, p2⟩ (by simpa using (List.getElem?_eq_some_iff.mp e1).1) (by simpa using (List.getElem?_eq_some_iff.mp e2).1) fun v1 v2 g tk f1 f2 z2 TO2 j1 j2 nT sz old => ?_
    have f1 : u1 = v1 := by simpa [e1] using f1
    have f2 : u2 = v2 := by simpa [e2] using f2
    subst f1 f2
    refine ⟨_, rfl, wpAny_letOwnedTupleGo_zip (s := { s with heap := g, toks := tk }) z2 fun g2 z3 sb => ?_⟩
    have nT2 : g2.get? s.heap.objs.size = some { cls := .type "tuple", data := .seq #[u1, u2] } := (sb.2 _ (Nat.ne_of_gt zl)).trans nT
    have new : ObjOk X.prog X.w (upd H s.heap.objs.size (.tup [x, y])) g2 s.heap.objs.size (.tup [x, y]) :=
      ⟨by show 2 ≤ sizeLine; decide, [u1, u2], .cons ru1 (.cons ru2 .nil), ⟨_, nT2, rfl, _, rfl⟩⟩
    have I2 : Inv X pins σ (upd H s.heap.objs.size (.tup [x, y])) { s with heap := g2, toks := tk } :=
      I.turnedNew (t' := tk) (ch := [z, TI, TO, i1, i2]) (fun c o nb q => (sb.2 c (fun r => nb (by simp [r]))).trans (old c o (fun r => nb (by simp [r])) (fun r => nb (by simp [r])) (fun r => nb (by simp [r])) (fun r => nb (by simp [r])) q)) hf (Nat.le_refl _) new
    refine ⟨.ref s.heap.objs.size, _, I2, rfl, ⟨_, x, y, rfl, I.hok.fresh (Nat.le_refl _), rfl, fun l hl => by rw [sqk_inj I hl qx]; exact ex, fun l hl => by rw [sqk_inj I hl qy]; exact ey⟩, ⟨z3, ?_, ⟨u1, u2, ?_⟩, ?_, ?_⟩, fun c hm => ?_⟩
    · exact (sb.2 _ D.TIz).trans (old _ _ D.TIz D.TITO D.TIi1 D.TIi2 s2)
    · exact (sb.2 _ D.TOz).trans TO2
    · exact itk_at j1.1 fun o q => (sb.2 _ D.i1z).trans q
    · exact itk_at j2.1 fun o q => (sb.2 _ D.i2z).trans q
    · have lt : c < s.heap.objs.size := by
        have cs : c = z ∨ c = TI ∨ c = TO ∨ c = i1 ∨ c = i2 := by simpa using hm
        rcases cs with rfl | rfl | rfl | rfl | rfl
        · exact zl
        · exact Heap.lt_size s2
        · exact Heap.lt_size s3
        · obtain ⟨_, e, _⟩ := itk_obj s4; exact Heap.lt_size e
        · obtain ⟨_, e, _⟩ := itk_obj s5; exact Heap.lt_size e
      rw [upd_ne (Nat.ne_of_lt lt)]
      exact (hf c hm).1
  done := by
    intro X hP hw hK hc i pins s σ H E I hf st hg
    subst hP hw hK
    obtain ⟨s1, s2, ⟨x0, y0, s3⟩, s4, s5⟩ := st
    obtain ⟨xs, ys, qx, qy, l1, l2, fin⟩ := hg
    obtain ⟨m1, r1, p1, _⟩ := inv_sqk I qx
    obtain ⟨m2, r2, p2, _⟩ := inv_sqk I qy
    have n1 := r1.length
    have n2 := r2.length
    have hh : X.A.in1.handled = none := I.ok.hd hc
    refine wpAny_pyNext_zipD2_end (sep_of D) (draws_k (prog := X.prog) (w := X.w) k1 hh i1 a D.l1i1 m1.toArray) (draws_k (prog := X.prog) (w := X.w) k2 hh i2 b D.l2i2 m2.toArray) s1 s2 s3 ⟨s4, p1⟩ ⟨s5, p2⟩ (by simp; omega) (by simp; omega) (by simp; omega) fun g tk old => ⟨rfl, I.turnedL (t' := tk) (ch := [z, TI, TO, i1, i2]) (fun c o nb q =>
      old c o (fun r => nb (by simp [r])) (fun r => nb (by simp [r])) (fun r => nb (by simp [r])) (fun r => nb (by simp [r])) q) hf⟩
  self := fun A i s Q E st h => wpAny_pyIter_zip st.1 h
/-! ### the call -/
abbrev zk1 (k1 : Bool) (h : Heap) (a : Addr) : Heap := h.push { cls := .type (cnK k1), data := .fields #[.ref a, .int 0 0] }
abbrev zk2 (k1 k2 : Bool) (h : Heap) (a b : Addr) : Heap := (zk1 k1 h a).push { cls := .type (cnK k2), data := .fields #[.ref b, .int 0 0] }
abbrev zk3 (k1 k2 : Bool) (h : Heap) (a b : Addr) : Heap := (zk2 k1 k2 h a b).push { cls := .type "tuple", data := .seq #[.ref h.objs.size, .ref (zk1 k1 h a).objs.size] }
abbrev zk4 (k1 k2 : Bool) (h : Heap) (a b : Addr) : Heap := (zk3 k1 k2 h a b).push { cls := .type "tuple", data := .seq #[.none, .none] }
abbrev zk5 (k1 k2 : Bool) (h : Heap) (a b : Addr) : Heap := (zk4 k1 k2 h a b).push { cls := .type "zip", data := .fields #[.none, .bool false, .bool false, .ref (zk2 k1 k2 h a b).objs.size, .ref (zk3 k1 k2 h a b).objs.size] }
theorem iter_k {prog : Program} {w : World} {A : Around} {E : Value → Shared → Prop} {s : Shared} {k : Bool} {t : Addr} {items : Array Value} {Q : Value → Shared → Prop} (ht : IsK k s.heap t items)
    (hQ : Q (.ref s.heap.objs.size) { s with heap := s.heap.push { cls := .type (cnK k), data := .fields #[.ref t, .int 0 0] } }) : wpAny (model prog w) A (pyIter (.ref t)) Q E s := by
  cases k with
  | true => exact wpAny_pyIter_tuple ht hQ
  | false => exact wpAny_pyIter_list ht hQ
theorem isk_push {k : Bool} {h : Heap} {l : Addr} {xs : Array Value} (q : IsK k h l xs) (o : Obj) : IsK k (h.push o) l xs := isk_at q fun _ e => Heap.get?_push_of_some _ e
theorem meets_zk (k1 k2 : Bool) (a b : Addr) (xs ys : Array Value) :
    Meets (Builtin.«zip.__new__» ⟨[.type "zip", .ref a, .ref b], []⟩) (fun _ R s => IsK k1 s.heap a xs ∧ IsK k2 s.heap b ys ∧
      R (.ok (.ret (.ref (zk4 k1 k2 s.heap a b).objs.size))) { s with heap := zk5 k1 k2 s.heap a b }) :=
  .of_wp fun prog w A R s h => by
    obtain ⟨hp, g, d, tk, os⟩ := s
    obtain ⟨ha, hb, h⟩ := h
    have hsub := sub_zip
    have LA : IsK k1 (Shared.heap ⟨hp, g, d, tk, os⟩) a xs := ha
    have LB : IsK k2 (Shared.heap ⟨hp.push { cls := .type (cnK k1), data := .fields #[.ref a, .int 0 0] }, g, d, tk, os⟩) b ys := isk_push hb _
    wp_walk using iter_k LA, iter_k LB
    exact ⟨_, rfl, h⟩
theorem itk_new {k : Bool} {h : Heap} {it l : Addr} (e : h.get? it = some { cls := .type (cnK k), data := .fields #[.ref l, .int 0 0] }) : ItK k h it l 0 := by
  cases k with
  | true => exact ⟨_, e, rfl, rfl⟩
  | false => exact ⟨_, e, rfl, rfl⟩
theorem call_zk {prog : Program} {w : World} {A : Around} {E : Value → Shared → Prop} {s : Shared} {k1 k2 : Bool} {a b : Addr} {xs ys : Array Value} {Q : Value → Shared → Prop} (ha : IsK k1 s.heap a xs) (hb : IsK k2 s.heap b ys)
    (h : ∀ g, IsZip g (s.heap.objs.size + 4) (s.heap.objs.size + 2) (s.heap.objs.size + 3) .none → IsPair g (s.heap.objs.size + 2) (.ref s.heap.objs.size) (.ref (s.heap.objs.size + 1)) →
      IsPair g (s.heap.objs.size + 3) .none .none → ItK k1 g s.heap.objs.size a 0 → ItK k2 g (s.heap.objs.size + 1) b 0 →
      (∀ c o, s.heap.get? c = some o → g.get? c = some o) → Q (.ref (s.heap.objs.size + 4)) { s with heap := g }) :
    wpAny (model prog w) A (call (.type "zip") [.ref a, .ref b]) Q E s := by
  refine callType_new F.called_zip (by decide) (F.typeCall_zip_2 _ _) (F.newCall_zip_2 _ _) (fun o => F.args_object_init_3 o _ _) F.entry_zip_new (meets_zk k1 k2 a b xs ys) ⟨ha, hb, ?_⟩
  have n1 : (zk1 k1 s.heap a).objs.size = s.heap.objs.size + 1 := Heap.size_push ..
  have n2 : (zk2 k1 k2 s.heap a b).objs.size = s.heap.objs.size + 2 := by rw [Heap.size_push, n1]
  have n3 : (zk3 k1 k2 s.heap a b).objs.size = s.heap.objs.size + 3 := by rw [Heap.size_push, n2]
  have n4 : (zk4 k1 k2 s.heap a b).objs.size = s.heap.objs.size + 4 := by rw [Heap.size_push, n3]
  have up : ∀ {h : Heap} {o q : Obj} {c : Addr}, h.get? c = some o → (h.push q).get? c = some o := fun e => Heap.get?_push_of_some _ e
  have q5 : (zk5 k1 k2 s.heap a b).get? (zk4 k1 k2 s.heap a b).objs.size = some _ := Heap.get?_push_size _ rfl
  have q4 : (zk5 k1 k2 s.heap a b).get? (zk3 k1 k2 s.heap a b).objs.size = some _ := up (Heap.get?_push_size _ rfl)
  have q3 : (zk5 k1 k2 s.heap a b).get? (zk2 k1 k2 s.heap a b).objs.size = some _ := up (up (Heap.get?_push_size _ rfl))
  have q2 : (zk5 k1 k2 s.heap a b).get? (zk1 k1 s.heap a).objs.size = some _ := up (up (up (Heap.get?_push_size _ rfl)))
  have q1 : (zk5 k1 k2 s.heap a b).get? s.heap.objs.size = some _ := up (up (up (up (Heap.get?_push_size _ rfl))))
  show _ ∧ _
  rw [n2, n3, n4] at q5
  rw [n1, n2] at q3
  rw [n3] at q4
  rw [n1] at q2
  rw [n4]
  exact ⟨⟨_, q5, rfl⟩, h _ q5 q3 q4 (itk_new q1) (itk_new q2) fun c o e => up (up (up (up (up e))))⟩
/-- what zip walks -/
def iZipM (K : PySem.W.Frag) (ta : TA) : TI := fun σ H R => ta σ H fun vs H1 => ∃ k1 k2 a b xs ys, vs = [.ref a, .ref b] ∧ SqK K k1 H1 a xs ∧ SqK K k2 H1 b ys ∧ R (ItzM K k1 k2 a b) H1
theorem pi_zipM {X : Cx} {e1 e2 : Expr} {ta : TA} {p pos tp : Pos} {tg : List Expr} {kk : Nat} (hg : Gl X "zip") (hm : X.mg "zip" = none) (ha : PA X [e1, e2] ta)
    (hs : starEach [e1, e2] X.env = (false, eval e1 X.env) :: starEach [e2] X.env := by rfl) (hpl : (backTo pos (starEach [e2] X.env)).any (·.1) = false := by rfl) :
    PI X (.Tuple tg kk tp) (.Call (.Name "zip" p) [e1, e2] [] pos) (iZipM X.K ta) := by
  refine ⟨fun pins s σ H R I h => Call_ (ld_blt I hg hm PyProof.Rows.boot_zip (PyProof.Rows.callWith_type1 (thn (ha.run pos pins s σ H _ I h) fun us t ⟨vs, H1, I1, r1, q1⟩ => ?_) hs hpl))⟩
  obtain ⟨k1, k2, a, b, xs, ys, rfl, qx, qy, q⟩ := q1
  cases r1 with
  | cons r rr =>
    cases rr with
    | cons r2 rr =>
      cases rr
      cases r
      cases r2
      obtain ⟨m1, v1, p1, la⟩ := inv_sqk I1 qx
      obtain ⟨m2, v2, p2, lb⟩ := inv_sqk I1 qy
      refine call_zk p1 p2 fun g z1 z2 z3 z4 z5 old => wpAny_pyIter_zip z1 ?_
      have I2 : Inv X pins σ H1 { t with heap := g } := I1.kept (t' := t.toks) old
      refine ⟨t.heap.objs.size + 4, [t.heap.objs.size + 4, t.heap.objs.size + 2, t.heap.objs.size + 3, t.heap.objs.size, t.heap.objs.size + 1], _, _, H1, rfl, I2, turn_zipM (PySem.W.ktu_apart t.heap.objs.size a b la lb), ⟨z1, z2, ⟨_, _, z3⟩, z4, z5⟩, fun c hm => ?_, q⟩
      have ge : t.heap.objs.size ≤ c := by
        have cs : c = t.heap.objs.size + 4 ∨ c = t.heap.objs.size + 2 ∨ c = t.heap.objs.size + 3 ∨ c = t.heap.objs.size ∨ c = t.heap.objs.size + 1 := by simpa using hm
        rcases cs with e | e | e | e | e <;> rw [e] <;> first | exact Nat.le_refl _ | exact Nat.le_add_right _ _
      exact I1.fpOk ge (I1.hok.fresh ge)
/-! ### by plain values -/
def zipL (xs ys : List D) : List D := List.zipWith (fun x y => D.tup [x, y]) xs ys
def seqS (d : D) : Mo Src := match d with
  | .tup xs => Mo.ret (.frz xs)
  | .lst xs => Mo.ret (.frz xs)
  | .scr ns => Mo.ret (.frz (ns.map D.int))
  | .obj n => fun M => match M[n]? with
    | some (.lst xs) => some (.ok (.ob n xs), M)
    | _ => none
  | _ => Mo.stop
def zipJ : Src → Src → Src
  | .frz xs, .frz ys => .frz (zipL xs ys)
  | s, t => .zip s t
def zipS : List D → Mo Src
  | [d, e] => Mo.bnd (seqS d) fun s => Mo.bnd (seqS e) fun t => Mo.ret (zipJ s t)
  | _ => Mo.stop
def iZ (ms : List XE) : Rho → Mo Src := fun ρ => Mo.bnd (aL ms ρ) zipS
section
variable {X : Cx} {cl : Str → Addr} {E : XK}
variable (X cl) in
def SeqOk (s : Src) (k : Bool) (a : Addr) (W : Wd) : Prop := ∀ W' M' H', W.le W' → HRel X.K cl W' M' H' → s.ok M' → ∃ vs, SqK X.K k H' a vs ∧ Reps X.K W' s.xs vs
theorem seq_ok {d : D} {v : V} {W : Wd} {M M1 : MS} {H : Hp} {s : Src} (r : Rep X.K W d v) (hH : HRel X.K cl W M H) (e : seqS d M = some (.ok s, M1)) : M1 = M ∧ s.ok M ∧ ∃ a k, v = .ref a ∧ SeqOk X cl s k a W := by
  cases d with
  | tup xs =>
    cases e
    obtain ⟨a, vs, z, sq, q⟩ := r
    exact ⟨rfl, trivial, a, true, z, fun W' M' H' l hH' _ => ⟨vs, sqT_mono hH'.gle (sqT_mono l.g sq), q.up l⟩⟩
  | lst xs =>
    cases e
    obtain ⟨a, vs, z, sq, q⟩ := r
    exact ⟨rfl, trivial, a, false, z, fun W' M' H' l hH' _ => ⟨vs, .inl (rd_mono hH'.gle (rd_mono l.g sq)), q.up l⟩⟩
  | scr ns =>
    cases e
    obtain ⟨a, z, sq⟩ := r
    exact ⟨rfl, trivial, a, false, z, fun W' M' H' l hH' _ => ⟨_, sqL_mono hH'.gle (sqL_mono l.g sq), Reps.ofInts ns⟩⟩
  | obj n =>
    have e : (match M[n]? with | some (.lst xs) => some (.ok (.ob n xs), M) | _ => none : Out Src) = some (.ok s, M1) := e
    obtain ⟨a, z, ea⟩ := r
    cases q : M[n]? with
    | none => simp only [q] at e; cases e
    | some mo =>
      simp only [q] at e
      cases mo with
      | lst xs =>
        cases e
        refine ⟨rfl, q, a, false, z, fun W' M' H' l hH' ok => ?_⟩
        obtain ⟨b, eb, _, _, vs, ho, rr⟩ := hH'.obj n _ ok
        rw [l.i _ _ ea] at eb
        have eb := Option.some.inj eb
        subst eb
        exact ⟨vs, .inl (Rd.of ho), rr⟩
      | _ => cases e
  | _ => cases e
theorem seq_err {d : D} {M M1 : MS} {x : Ex} : seqS d M ≠ some (.error x, M1) := by
  cases d with
  | obj n =>
    show (match M[n]? with | some (.lst xs) => some (.ok (.ob n xs), M) | _ => none : Out Src) ≠ _
    split <;> (intro h; cases h)
  | _ => intro h; cases h
theorem srcok_zip {s t : Src} {k1 k2 : Bool} {a b : Addr} {W : Wd} (h1 : SeqOk X cl s k1 a W) (h2 : SeqOk X cl t k2 b W) : SrcOk X cl (.zip s t) (ItzM X.K k1 k2 a b) W where
  stop := fun W' M' H' l hH ok => by
    obtain ⟨us, q1, r1⟩ := h1 W' M' H' l hH ok.1
    obtain ⟨vs, q2, r2⟩ := h2 W' M' H' l hH ok.2
    have e : (Src.zip s t).xs.length = min s.xs.length t.xs.length := List.length_zipWith
    have n1 := r1.length
    have n2 := r2.length
    exact ⟨us, vs, q1, q2, by omega, by omega, by omega⟩
  go := fun i x W' M' H' l hH ok hx => by
    obtain ⟨us, q1, r1⟩ := h1 W' M' H' l hH ok.1
    obtain ⟨vs, q2, r2⟩ := h2 W' M' H' l hH ok.2
    have hx : (List.zipWith (fun x y => D.tup [x, y]) s.xs t.xs)[i]? = some x := hx
    rw [List.getElem?_zipWith] at hx
    cases e1 : s.xs[i]? with
    | none => rw [e1] at hx; cases hx
    | some x1 =>
      cases e2 : t.xs[i]? with
      | none => rw [e1, e2] at hx; cases hx
      | some x2 =>
        rw [e1, e2] at hx
        cases hx
        obtain ⟨u, g1, ru⟩ := r1.get e1
        obtain ⟨v, g2, rv⟩ := r2.get e2
        refine ⟨⟨us, vs, u, v, q1, q2, g1, g2⟩, fun y H2 hy => ?_⟩
        obtain ⟨T, y1, y2, rfl, hn, rfl, f1, f2⟩ := hy
        have f1 := f1 us q1
        have f2 := f2 vs q2
        rw [g1] at f1
        rw [g2] at f2
        cases f1
        cases f2
        obtain ⟨W2, l2, hH2, r2⟩ := hH.mkTup (ds := [x1, x2]) (vs := [u, v]) ⟨u, [v], rfl, ru, v, [], rfl, rv, rfl⟩ hn
        exact ⟨W2, l2, r2, hH2⟩
theorem srcok_zipJ {s t : Src} {J : It} {W : Wd} (h : SrcOk X cl (.zip s t) J W) : SrcOk X cl (zipJ s t) J W := by
  cases s with
  | frz xs =>
    cases t with
    | frz ys => exact ⟨fun W' M' H' l hH _ => h.stop W' M' H' l hH ⟨trivial, trivial⟩, fun i x W' M' H' l hH _ hx => h.go i x W' M' H' l hH ⟨trivial, trivial⟩ hx⟩
    | _ => exact h
  | _ => exact h
theorem pdi_zip {a b : Expr} {ma mb : XE} {p pos tp : Pos} {tg : List Expr} {kk : Nat} (hg : Gl X "zip") (hm : X.mg "zip" = none) (ha : PD X cl E a ma) (hb : PD X cl E b mb)
    (hs : starEach [a, b] X.env = [(false, eval a X.env), (false, eval b X.env)] := by rfl) (hs2 : starEach [b] X.env = [(false, eval b X.env)] := by rfl) (hpl : (backTo pos (starEach [b] X.env)).any (·.1) = false := by rfl) :
    PDI X cl E (.Tuple tg kk tp) (.Call (.Name "zip" p) [a, b] [] pos) (iZ [ma, mb]) :=
  PI.imp (pi_zipM hg hm (pda_cons ha (pda_cons hb pda_nil hs2) (by rw [hs, hs2])) (by rw [hs, hs2]) hpl) fun σ H R ⟨ρ, M, W, hρ, hH, hp⟩ => ⟨ρ, M, W, hρ, hH, Post.seqL hp fun ds M1 W1 H1 vs l1 r1 hl hH1 hp1 => by
    match ds, r1, hl, hp1 with
    | [d, e], r1, _, hp1 =>
      obtain ⟨v, us, e1, rv, r2⟩ := r1
      obtain ⟨v2, rfl, rv2⟩ := r2.one_of
      have hp2 : Post X.K cl E (fun W s J => SrcOk X cl s J W) W1 (Mo.bnd (seqS d) (fun s => Mo.bnd (seqS e) fun t => Mo.ret (zipJ s t)) M1) R := hp1
      cases q1 : seqS d M1 with
      | none => unfold Mo.bnd at hp2; rw [q1] at hp2; exact hp2.elim
      | some z =>
        obtain ⟨z, N1⟩ := z
        cases z with
        | error x => exact absurd q1 seq_err
        | ok s =>
          rw [Mo.bnd_of q1] at hp2
          obtain ⟨rfl, ok1, a1, k1, z1, so1⟩ := seq_ok rv hH1 q1
          cases q2 : seqS e N1 with
          | none => unfold Mo.bnd at hp2; rw [q2] at hp2; exact hp2.elim
          | some z =>
            obtain ⟨z, N2⟩ := z
            cases z with
            | error x => exact absurd q2 seq_err
            | ok t =>
              rw [Mo.bnd_of q2] at hp2
              obtain ⟨rfl, ok2, a2, k2, z2, so2⟩ := seq_ok rv2 hH1 q2
              obtain ⟨xs, sx, _⟩ := so1 W1 _ H1 (.refl W1) hH1 ok1
              obtain ⟨ys, sy, _⟩ := so2 W1 _ H1 (.refl W1) hH1 ok2
              exact ⟨k1, k2, a1, a2, xs, ys, by rw [e1, z1, z2], sx, sy, hp2 W1 H1 _ (.refl W1) (srcok_zipJ (srcok_zip so1 so2)) hH1⟩⟩
end
section
variable {M : MS} {QS : Src → MS → Prop} {QU : Unit → MS → Prop} {ρ : Rho}
@[simp ↓] theorem w_iZ {ms : List XE} : wp (iZ ms ρ) M QS = wp (aL ms ρ) M fun d M1 => wp (zipS d) M1 QS := wq_bndE
@[simp ↓] theorem w_zipS {d e : D} : wp (zipS [d, e]) M QS = wp (seqS d) M fun s M1 => wp (seqS e) M1 fun t M2 => QS (zipJ s t) M2 := by
  show wp (Mo.bnd (seqS d) _) M QS = _
  rw [wp_bndE]
  show wq _ _ _ = wq _ _ _
  congr 1; funext s M1
  rw [wp_bndE]
  show wq _ _ _ = wq _ _ _
  congr 1; funext t M2
  exact wp_of rfl
@[simp ↓] theorem w_seqT {xs : List D} : wp (seqS (.tup xs)) M QS = QS (.frz xs) M := wp_of rfl
@[simp ↓] theorem w_seqL {xs : List D} : wp (seqS (.lst xs)) M QS = QS (.frz xs) M := wp_of rfl
theorem w_seqO {n : Nat} {xs : List D} (h : M[n]? = some (.lst xs)) : wp (seqS (.obj n)) M QS = QS (.ob n xs) M := wp_of (by unfold seqS; simp only [h])
@[simp] theorem zipJ_frz {xs ys : List D} : zipJ (.frz xs) (.frz ys) = .frz (zipL xs ys) := rfl
@[simp] theorem zipJ_ob {n : Nat} {xs ys : List D} : zipJ (.frz xs) (.ob n ys) = .zip (.frz xs) (.ob n ys) := rfl
theorem zipL_get {xs ys : List D} {i : Nat} {z : D} (h : (zipL xs ys)[i]? = some z) : ∃ x y, xs[i]? = some x ∧ ys[i]? = some y ∧ z = .tup [x, y] := by
  unfold zipL at h
  rw [List.getElem?_zipWith] at h
  cases e1 : xs[i]? with
  | none => rw [e1] at h; cases h
  | some x =>
    cases e2 : ys[i]? with
    | none => rw [e1, e2] at h; cases h
    | some y => rw [e1, e2] at h; cases h; exact ⟨x, y, rfl, rfl, rfl⟩
@[simp] theorem zipL_len {xs ys : List D} : (zipL xs ys).length = min xs.length ys.length := List.length_zipWith
end
end DL

namespace Law
open PySem PySem.Spec PyProof.Rows L2 DL
def topS (i : Nat) : Stmt := PySem.Challenge.pw_degreewise_k04_lines_at_values.main.body.getD i (.Pass ⟨0, 0, 0, 0⟩)
abbrev s_common : Stmt := topS 1
abbrev s_fraction : Stmt := topS 2
abbrev s_added : Stmt := topS 3
abbrev s_times : Stmt := topS 4
abbrev s_line_at : Stmt := topS 6
abbrev s__law_pool : Stmt := topS 8
abbrev s__law_spread : Stmt := topS 9
abbrev s__law_draw : Stmt := topS 10
abbrev s__law_pick : Stmt := topS 11
abbrev s__law_common : Stmt := topS 12
abbrev s__law_fraction : Stmt := topS 13
abbrev s__law_same : Stmt := topS 14
abbrev s_law : Stmt := topS 15
def d_common : He.DefD := ⟨("common", none), "common", "common", defArgs s_common, defBody s_common, defScope s_common, [], []⟩
def d_fraction : He.DefD := ⟨("fraction", none), "fraction", "fraction", defArgs s_fraction, defBody s_fraction, defScope s_fraction, [], []⟩
def d_added : He.DefD := ⟨("added", none), "added", "added", defArgs s_added, defBody s_added, defScope s_added, [], []⟩
def d_times : He.DefD := ⟨("times", none), "times", "times", defArgs s_times, defBody s_times, defScope s_times, [], []⟩
def d_line_at : He.DefD := ⟨("line_at", none), "line_at", "line_at", defArgs s_line_at, defBody s_line_at, defScope s_line_at, [], []⟩
def d__law_pool : He.DefD := ⟨("_law_pool", none), "_law_pool", "_law_pool", defArgs s__law_pool, defBody s__law_pool, defScope s__law_pool, [], []⟩
def d__law_spread : He.DefD := ⟨("_law_spread", none), "_law_spread", "_law_spread", defArgs s__law_spread, defBody s__law_spread, defScope s__law_spread, [], []⟩
def d__law_draw : He.DefD := ⟨("_law_draw", none), "_law_draw", "_law_draw", defArgs s__law_draw, defBody s__law_draw, defScope s__law_draw, [], []⟩
def d__law_pick : He.DefD := ⟨("_law_pick", none), "_law_pick", "_law_pick", defArgs s__law_pick, defBody s__law_pick, defScope s__law_pick, [], []⟩
def d__law_common : He.DefD := ⟨("_law_common", none), "_law_common", "_law_common", defArgs s__law_common, defBody s__law_common, defScope s__law_common, [], []⟩
def d__law_fraction : He.DefD := ⟨("_law_fraction", none), "_law_fraction", "_law_fraction", defArgs s__law_fraction, defBody s__law_fraction, defScope s__law_fraction, [], []⟩
def d__law_same : He.DefD := ⟨("_law_same", none), "_law_same", "_law_same", defArgs s__law_same, defBody s__law_same, defScope s__law_same, [], []⟩
def d_law : He.DefD := ⟨("law", none), "law", "law", defArgs s_law, defBody s_law, defScope s_law, [], []⟩
def fn : List He.DefD := [d_common, d_fraction, d_added, d_times, d_line_at, d__law_pool, d__law_spread, d__law_draw, d__law_pick, d__law_common, d__law_fraction, d__law_same, d_law]
def fa : List He.Fa := [.glo "common", .glo "fraction", .glo "added", .glo "times", .glo "line_at", .glo "_law_pool", .glo "_law_spread", .glo "_law_draw", .glo "_law_pick", .glo "_law_common", .glo "_law_fraction", .glo "_law_same", .glo "law", .free "abs", .free "bool", .free "int", .free "isinstance", .free "len", .free "list", .free "range", .free "str", .free "tuple", .free "zip"]
structure Txt (K : PySem.W.Frag) (mg : Str → Option Value) : Prop where
  d : He.SaysD fa fn K
  g : ∀ x, (He.Fa.glo x).ok K = true → mg x = some (.ref (He.ga K x))
  f : ∀ x, (He.Fa.free x).ok K = true → mg x = none
section
variable {P : Program} {w : World} {K : PySem.W.Frag} {mg : Str → Option Value} {base : Heap} {cl : Str → Addr}
noncomputable def m_common : XS :=
  sSeq (sWh (tV (e2 gtD (eV 1) (eC (.int 0)))) (sPar 0 1 (eV 1) (e2 modD (eV 0) (eV 1)))) (sRet (eV 0))
theorem sc_common : FnScope ["one", "two"] ["one", "two"] (defScope s_common) := ⟨rfl, rfl, rfl, by decide +kernel, rfl, by decide +kernel, by decide +kernel⟩
theorem ok_common (T : Txt K mg) {k : Nat} : DefOk P w K mg base cl "common" (k + 1) 2 (fnB 2 (m_common)) := by
  obtain ⟨fd, Fd⟩ := T.d.def_ 0 (d := d_common) rfl
  have sc := sc_common
  refine okD (N := ["one", "two"]) (ps := ["one", "two"]) Fd sc (T.g _ (T.d.fact 0 (f := .glo "common") rfl)) (fun _ _ _ _ _ _ us hl => match us, hl with | [_, _], _ => rfl) fun cdv A outer s H E hr tk ow => ?_
  exact (pds_cons (pds_while ow (pdt_cmp od_gt (pd_v 1) pd_int (nomark _)) (pds_one (pds_par 0 1 rfl sc.nd (pd_v 1) (pd_op od_mod (pd_v 0) (pd_v 1))))) (pds_one (pds_ret (pd_v 0))))
noncomputable def F_common : Fn := fnB 2 (m_common)
theorem G_common (T : Txt K mg) : DefOk P w K mg base cl "common" 1 2 F_common := ok_common T (k := 0)
def m_fraction (F_common : Fn) : XS :=
  sSeq (sIf (tV (e2 ltD (eV 1) (eC (.int 0)))) (sPar 0 1 (e1 negD (eV 0)) (e1 negD (eV 1))) (sNext)) (sSeq (sAsg (eB F_common [eB absD [eV 0], eV 1]) (gN 2)) (sRet (eTup [e2 fdivD (eV 0) (eV 2), e2 fdivD (eV 1) (eV 2)])))
theorem sc_fraction : FnScope ["over", "under", "shared"] ["over", "under"] (defScope s_fraction) := ⟨rfl, rfl, rfl, by decide +kernel, rfl, by decide +kernel, by decide +kernel⟩
theorem ok_fraction (T : Txt K mg) {k : Nat} {F_common : Fn} {k_common : Nat} (G_common : DefOk P w K mg base cl "common" k_common 2 F_common) (l_common : k_common ≤ k) : DefOk P w K mg base cl "fraction" (k + 1) 2 (fnB 3 (m_fraction F_common)) := by
  obtain ⟨fd, Fd⟩ := T.d.def_ 1 (d := d_fraction) rfl
  have sc := sc_fraction
  have b_abs : mg "abs" = none := T.f _ (T.d.fact 13 (f := .free "abs") rfl)
  refine okD (N := ["over", "under", "shared"]) (ps := ["over", "under"]) Fd sc (T.g _ (T.d.fact 1 (f := .glo "fraction") rfl)) (fun _ _ _ _ _ _ us hl => match us, hl with | [_, _], _ => rfl) fun cdv A outer s H E hr tk ow => ?_
  exact (pds_cons (pds_if (pdt_cmp od_lt (pd_v 1) pd_int (nomark _)) (pds_one (pds_par 0 1 rfl sc.nd (pd_neg (pd_v 0)) (pd_neg (pd_v 1)))) pds_nil) (pds_cons (pds_set 2 sc.nd (pd_call G_common hr tk (pda_cons (pd_B cd_abs (by rfl) b_abs boot_abs (pda_cons (pd_v 0) pda_nil)) (pda_cons (pd_v 1) pda_nil)))) (pds_one (pds_ret (pd_tup (pda_cons (pd_op od_fdiv (pd_v 0) (pd_v 2)) (pda_cons (pd_op od_fdiv (pd_v 1) (pd_v 2)) pda_nil)))))))
noncomputable def F_fraction : Fn := fnB 3 (m_fraction F_common)
theorem G_fraction (T : Txt K mg) : DefOk P w K mg base cl "fraction" 2 2 F_fraction := ok_fraction T (k := 1) (G_common T) (by decide)
def m_added (F_fraction : Fn) : XS :=
  sRet (eB F_fraction [e2 addD (e2 mulD (e2 ixD (eV 0) (eC (.int 0))) (e2 ixD (eV 1) (eC (.int 1)))) (e2 mulD (e2 ixD (eV 1) (eC (.int 0))) (e2 ixD (eV 0) (eC (.int 1)))), e2 mulD (e2 ixD (eV 0) (eC (.int 1))) (e2 ixD (eV 1) (eC (.int 1)))])
theorem sc_added : FnScope ["one", "two"] ["one", "two"] (defScope s_added) := ⟨rfl, rfl, rfl, by decide +kernel, rfl, by decide +kernel, by decide +kernel⟩
theorem ok_added (T : Txt K mg) {k : Nat} {F_fraction : Fn} {k_fraction : Nat} (G_fraction : DefOk P w K mg base cl "fraction" k_fraction 2 F_fraction) (l_fraction : k_fraction ≤ k) : DefOk P w K mg base cl "added" (k + 1) 2 (fnB 2 (m_added F_fraction)) := by
  obtain ⟨fd, Fd⟩ := T.d.def_ 2 (d := d_added) rfl
  have sc := sc_added
  refine okD (N := ["one", "two"]) (ps := ["one", "two"]) Fd sc (T.g _ (T.d.fact 2 (f := .glo "added") rfl)) (fun _ _ _ _ _ _ us hl => match us, hl with | [_, _], _ => rfl) fun cdv A outer s H E hr tk ow => ?_
  exact (pds_one (pds_ret (pd_call G_fraction hr tk (pda_cons (pd_op od_add (pd_op od_mul (pd_ix (pd_v 0) pd_int) (pd_ix (pd_v 1) pd_int)) (pd_op od_mul (pd_ix (pd_v 1) pd_int) (pd_ix (pd_v 0) pd_int))) (pda_cons (pd_op od_mul (pd_ix (pd_v 0) pd_int) (pd_ix (pd_v 1) pd_int)) pda_nil)))))
noncomputable def F_added : Fn := fnB 2 (m_added F_fraction)
theorem G_added (T : Txt K mg) : DefOk P w K mg base cl "added" 3 2 F_added := ok_added T (k := 2) (G_fraction T) (by decide)
def m_times (F_fraction : Fn) : XS :=
  sRet (eB F_fraction [e2 mulD (e2 ixD (eV 0) (eC (.int 0))) (e2 ixD (eV 1) (eC (.int 0))), e2 mulD (e2 ixD (eV 0) (eC (.int 1))) (e2 ixD (eV 1) (eC (.int 1)))])
theorem sc_times : FnScope ["one", "two"] ["one", "two"] (defScope s_times) := ⟨rfl, rfl, rfl, by decide +kernel, rfl, by decide +kernel, by decide +kernel⟩
theorem ok_times (T : Txt K mg) {k : Nat} {F_fraction : Fn} {k_fraction : Nat} (G_fraction : DefOk P w K mg base cl "fraction" k_fraction 2 F_fraction) (l_fraction : k_fraction ≤ k) : DefOk P w K mg base cl "times" (k + 1) 2 (fnB 2 (m_times F_fraction)) := by
  obtain ⟨fd, Fd⟩ := T.d.def_ 3 (d := d_times) rfl
  have sc := sc_times
  refine okD (N := ["one", "two"]) (ps := ["one", "two"]) Fd sc (T.g _ (T.d.fact 3 (f := .glo "times") rfl)) (fun _ _ _ _ _ _ us hl => match us, hl with | [_, _], _ => rfl) fun cdv A outer s H E hr tk ow => ?_
  exact (pds_one (pds_ret (pd_call G_fraction hr tk (pda_cons (pd_op od_mul (pd_ix (pd_v 0) pd_int) (pd_ix (pd_v 1) pd_int)) (pda_cons (pd_op od_mul (pd_ix (pd_v 0) pd_int) (pd_ix (pd_v 1) pd_int)) pda_nil)))))
noncomputable def F_times : Fn := fnB 2 (m_times F_fraction)
theorem G_times (T : Txt K mg) : DefOk P w K mg base cl "times" 3 2 F_times := ok_times T (k := 2) (G_fraction T) (by decide)
noncomputable def m_line_at (F_added : Fn) (F_times : Fn) : XS :=
  sSeq (sAsg (eTup [e2 ixD (eV 0) (eC (.int 0)), eC (.int 1)]) (gN 2)) (sSeq (sFor (iZ [e2 ixD (eV 0) (eC (.int 1)), eV 1]) (gT [gN 3, gN 4]) (sAsg (eB F_added [eV 2, eB F_times [eTup [eV 3, eC (.int 1)], eV 4]]) (gN 2))) (sRet (eV 2)))
theorem sc_line_at : FnScope ["line", "values", "found", "factor", "value"] ["line", "values"] (defScope s_line_at) := ⟨rfl, rfl, rfl, by decide +kernel, rfl, by decide +kernel, by decide +kernel⟩
theorem ok_line_at (T : Txt K mg) {k : Nat} {F_added : Fn} {k_added : Nat} (G_added : DefOk P w K mg base cl "added" k_added 2 F_added) {F_times : Fn} {k_times : Nat} (G_times : DefOk P w K mg base cl "times" k_times 2 F_times) (l_added : k_added ≤ k) (l_times : k_times ≤ k) : DefOk P w K mg base cl "line_at" (k + 1) 2 (fnB 5 (m_line_at F_added F_times)) := by
  obtain ⟨fd, Fd⟩ := T.d.def_ 4 (d := d_line_at) rfl
  have sc := sc_line_at
  have b_zip : mg "zip" = none := T.f _ (T.d.fact 22 (f := .free "zip") rfl)
  refine okD (N := ["line", "values", "found", "factor", "value"]) (ps := ["line", "values"]) Fd sc (T.g _ (T.d.fact 4 (f := .glo "line_at") rfl)) (fun _ _ _ _ _ _ us hl => match us, hl with | [_, _], _ => rfl) fun cdv A outer s H E hr tk ow => ?_
  exact (pds_cons (pds_set 2 sc.nd (pd_tup (pda_cons (pd_ix (pd_v 0) pd_int) (pda_cons pd_int pda_nil)))) (pds_cons (pds_for ow rfl (pdi_zip (by rfl) b_zip (pd_ix (pd_v 0) pd_int) (pd_v 1)) (pdg_tup rfl (pdgs_cons (pdg_name 3 sc.nd) (pdgs_cons (pdg_name 4 sc.nd) pdgs_nil))) (pds_one (pds_set 2 sc.nd (pd_call G_added hr tk (pda_cons (pd_v 2) (pda_cons (pd_call G_times hr tk (pda_cons (pd_tup (pda_cons (pd_v 3) (pda_cons pd_int pda_nil))) (pda_cons (pd_v 4) pda_nil))) pda_nil)))))) (pds_one (pds_ret (pd_v 2)))))
noncomputable def F_line_at : Fn := fnB 5 (m_line_at F_added F_times)
theorem G_line_at (T : Txt K mg) : DefOk P w K mg base cl "line_at" 4 2 F_line_at := ok_line_at T (k := 3) (G_added T) (G_times T) (by decide) (by decide)
noncomputable def m__law_pool : XS :=
  sSeq (sAsg (eC (.int 7)) (gN 1)) (sSeq (sFor (iS (eSl (eV 0) (pNo) (pSo (eC (.int 63))))) (gN 2) (sAsg (e2 modD (eB intD [e2 addD (e2 mulD (eV 1) (eC (.int 31))) (eV 2)]) (eC (.int 1000003))) (gN 1))) (sRet (eLstM [eB listD [eV 0], eC (.int 0), eC (.int 0), eC (.int 0), eV 1])))
theorem sc__law_pool : FnScope ["script", "salt", "cell"] ["script"] (defScope s__law_pool) := ⟨rfl, rfl, rfl, by decide +kernel, rfl, by decide +kernel, by decide +kernel⟩
theorem ok__law_pool (T : Txt K mg) {k : Nat} : DefOk P w K mg base cl "_law_pool" (k + 1) 1 (fnB 3 (m__law_pool)) := by
  obtain ⟨fd, Fd⟩ := T.d.def_ 5 (d := d__law_pool) rfl
  have sc := sc__law_pool
  have b_int : mg "int" = none := T.f _ (T.d.fact 15 (f := .free "int") rfl)
  have b_list : mg "list" = none := T.f _ (T.d.fact 18 (f := .free "list") rfl)
  refine okD (N := ["script", "salt", "cell"]) (ps := ["script"]) Fd sc (T.g _ (T.d.fact 5 (f := .glo "_law_pool") rfl)) (fun _ _ _ _ _ _ us hl => match us, hl with | [_], _ => rfl) fun cdv A outer s H E hr tk ow => ?_
  exact (pds_cons (pds_set 1 sc.nd pd_int) (pds_cons (pds_for ow rfl (pdi_seq (pd_sl (pd_v 0) po_no (po_so pd_int))) (pdg_name 2 sc.nd) (pds_one (pds_set 1 sc.nd (pd_op od_mod (pd_Ty cd_int (by rfl) b_int boot_int (pda_cons (pd_op od_add (pd_op od_mul (pd_v 1) pd_int) (pd_v 2)) pda_nil)) pd_int)))) (pds_one (pds_ret (pd_lstM (pda_cons (pd_Ty cd_list (by rfl) b_list boot_list (pda_cons (pd_v 0) pda_nil)) (pda_cons pd_int (pda_cons pd_int (pda_cons pd_int (pda_cons (pd_v 1) pda_nil))))))))))
noncomputable def F__law_pool : Fn := fnB 3 (m__law_pool)
theorem G__law_pool (T : Txt K mg) : DefOk P w K mg base cl "_law_pool" 1 1 F__law_pool := ok__law_pool T (k := 0)
noncomputable def m__law_spread : XS :=
  sSeq (sAsg (e2 modD (eB intD [eV 0]) (eC (.int 2147483647))) (gN 1)) (sSeq (sAsg (eC (.int 1)) (gN 2)) (sSeq (sFor (iR [eC (.int 4)]) (gN 3) (sSeq (sAsg (e2 modD (eB intD [e2 addD (e2 addD (e2 mulD (eV 1) (eC (.int 48271))) (eC (.int 12345))) (eV 3)]) (eC (.int 2147483647))) (gN 1)) (sAsg (e2 addD (e2 mulD (eV 2) (eC (.int 2147483647))) (eV 1)) (gN 2)))) (sRet (eV 2))))
theorem sc__law_spread : FnScope ["cell", "blended", "whole_sum", "k"] ["cell"] (defScope s__law_spread) := ⟨rfl, rfl, rfl, by decide +kernel, rfl, by decide +kernel, by decide +kernel⟩
theorem ok__law_spread (T : Txt K mg) {k : Nat} : DefOk P w K mg base cl "_law_spread" (k + 1) 1 (fnB 4 (m__law_spread)) := by
  obtain ⟨fd, Fd⟩ := T.d.def_ 6 (d := d__law_spread) rfl
  have sc := sc__law_spread
  have b_int : mg "int" = none := T.f _ (T.d.fact 15 (f := .free "int") rfl)
  have b_range : mg "range" = none := T.f _ (T.d.fact 19 (f := .free "range") rfl)
  refine okD (N := ["cell", "blended", "whole_sum", "k"]) (ps := ["cell"]) Fd sc (T.g _ (T.d.fact 6 (f := .glo "_law_spread") rfl)) (fun _ _ _ _ _ _ us hl => match us, hl with | [_], _ => rfl) fun cdv A outer s H E hr tk ow => ?_
  exact (pds_cons (pds_set 1 sc.nd (pd_op od_mod (pd_Ty cd_int (by rfl) b_int boot_int (pda_cons (pd_v 0) pda_nil)) pd_int)) (pds_cons (pds_set 2 sc.nd pd_int) (pds_cons (pds_for ow rfl (pdi_rng1 (by rfl) b_range pd_int) (pdg_name 3 sc.nd) (pds_cons (pds_set 1 sc.nd (pd_op od_mod (pd_Ty cd_int (by rfl) b_int boot_int (pda_cons (pd_op od_add (pd_op od_add (pd_op od_mul (pd_v 1) pd_int) pd_int) (pd_v 3)) pda_nil)) pd_int)) (pds_one (pds_set 2 sc.nd (pd_op od_add (pd_op od_mul (pd_v 2) pd_int) (pd_v 1)))))) (pds_one (pds_ret (pd_v 2))))))
noncomputable def F__law_spread : Fn := fnB 4 (m__law_spread)
theorem G__law_spread (T : Txt K mg) : DefOk P w K mg base cl "_law_spread" 1 1 F__law_spread := ok__law_spread T (k := 0)
def m__law_draw (F__law_spread : Fn) : XS :=
  sSeq (sIf (tAn (tV (e2 leD (e2 ixD (eV 0) (eC (.int 2))) (eC (.int 0)))) (tV (e2 ltD (e2 ixD (eV 0) (eC (.int 1))) (eB lenD [e2 ixD (eV 0) (eC (.int 0))])))) (sSeq (sAsg (e2 ixD (e2 ixD (eV 0) (eC (.int 0))) (e2 ixD (eV 0) (eC (.int 1)))) (gN 2)) (sSeq (sAsg (e2 addD (e2 ixD (eV 0) (eC (.int 1))) (eC (.int 1))) (gS (eV 0) (eC (.int 1)))) (sSeq (sAsg (eV 2) (gS (eV 0) (eC (.int 2)))) (sIf (tV (e2 ltD (eV 2) (eC (.int 1000000000000000000)))) (sAsg (eB F__law_spread [eV 2]) (gS (eV 0) (eC (.int 2)))) (sNext))))) (sNext)) (sSeq (sAsg (e2 addD (e2 ixD (eV 0) (eC (.int 3))) (eC (.int 1))) (gS (eV 0) (eC (.int 3)))) (sSeq (sIf (tV (e2 leD (e2 ixD (eV 0) (eC (.int 2))) (eC (.int 0)))) (sSeq (sAsg (e2 modD (eB intD [e2 addD (e2 addD (e2 mulD (e2 ixD (eV 0) (eC (.int 4))) (eC (.int 48271))) (e2 mulD (e2 ixD (eV 0) (eC (.int 3))) (eC (.int 69621)))) (eC (.int 1))]) (eC (.int 2147483647))) (gN 3)) (sSeq (sAsg (e2 modD (eB intD [e2 addD (e2 mulD (eV 3) (eC (.int 16807))) (e2 ixD (eV 0) (eC (.int 3)))]) (eC (.int 2147483629))) (gN 3)) (sRet (e2 modD (e2 fdivD (eV 3) (eC (.int 5))) (eV 1))))) (sNext)) (sSeq (sAsg (e2 modD (eB intD [e2 ixD (eV 0) (eC (.int 2))]) (eV 1)) (gN 4)) (sSeq (sAsg (e2 fdivD (e2 ixD (eV 0) (eC (.int 2))) (eV 1)) (gS (eV 0) (eC (.int 2)))) (sRet (eV 4))))))
theorem sc__law_draw : FnScope ["pool", "many", "cell", "blended", "value"] ["pool", "many"] (defScope s__law_draw) := ⟨rfl, rfl, rfl, by decide +kernel, rfl, by decide +kernel, by decide +kernel⟩
theorem ok__law_draw (T : Txt K mg) {k : Nat} {F__law_spread : Fn} {k__law_spread : Nat} (G__law_spread : DefOk P w K mg base cl "_law_spread" k__law_spread 1 F__law_spread) (l__law_spread : k__law_spread ≤ k) : DefOk P w K mg base cl "_law_draw" (k + 1) 2 (fnB 5 (m__law_draw F__law_spread)) := by
  obtain ⟨fd, Fd⟩ := T.d.def_ 7 (d := d__law_draw) rfl
  have sc := sc__law_draw
  have b_len : mg "len" = none := T.f _ (T.d.fact 17 (f := .free "len") rfl)
  have b_int : mg "int" = none := T.f _ (T.d.fact 15 (f := .free "int") rfl)
  refine okD (N := ["pool", "many", "cell", "blended", "value"]) (ps := ["pool", "many"]) Fd sc (T.g _ (T.d.fact 7 (f := .glo "_law_draw") rfl)) (fun _ _ _ _ _ _ us hl => match us, hl with | [_, _], _ => rfl) fun cdv A outer s H E hr tk ow => ?_
  exact (pds_cons (pds_if (pdt_bool (pdw_and (pdt_cmp od_le (pd_ix (pd_v 0) pd_int) pd_int (nomark _)) (pdw_and1 (pdt_cmp od_lt (pd_ix (pd_v 0) pd_int) (pd_B cd_len (by rfl) b_len boot_len (pda_cons (pd_ix (pd_v 0) pd_int) pda_nil)) (nomark _))))) (pds_cons (pds_set 2 sc.nd (pd_ix (pd_ix (pd_v 0) pd_int) (pd_ix (pd_v 0) pd_int))) (pds_cons (pds_asg (pd_op od_add (pd_ix (pd_v 0) pd_int) pd_int) (pdg_sub (pd_v 0) pd_int)) (pds_cons (pds_asg (pd_v 2) (pdg_sub (pd_v 0) pd_int)) (pds_one (pds_if (pdt_cmp od_lt (pd_v 2) pd_int (nomark _)) (pds_one (pds_asg (pd_call G__law_spread hr tk (pda_cons (pd_v 2) pda_nil)) (pdg_sub (pd_v 0) pd_int))) pds_nil))))) pds_nil) (pds_cons (pds_asg (pd_op od_add (pd_ix (pd_v 0) pd_int) pd_int) (pdg_sub (pd_v 0) pd_int)) (pds_cons (pds_if (pdt_cmp od_le (pd_ix (pd_v 0) pd_int) pd_int (nomark _)) (pds_cons (pds_set 3 sc.nd (pd_op od_mod (pd_Ty cd_int (by rfl) b_int boot_int (pda_cons (pd_op od_add (pd_op od_add (pd_op od_mul (pd_ix (pd_v 0) pd_int) pd_int) (pd_op od_mul (pd_ix (pd_v 0) pd_int) pd_int)) pd_int) pda_nil)) pd_int)) (pds_cons (pds_set 3 sc.nd (pd_op od_mod (pd_Ty cd_int (by rfl) b_int boot_int (pda_cons (pd_op od_add (pd_op od_mul (pd_v 3) pd_int) (pd_ix (pd_v 0) pd_int)) pda_nil)) pd_int)) (pds_one (pds_ret (pd_op od_mod (pd_op od_fdiv (pd_v 3) pd_int) (pd_v 1)))))) pds_nil) (pds_cons (pds_set 4 sc.nd (pd_op od_mod (pd_Ty cd_int (by rfl) b_int boot_int (pda_cons (pd_ix (pd_v 0) pd_int) pda_nil)) (pd_v 1))) (pds_cons (pds_asg (pd_op od_fdiv (pd_ix (pd_v 0) pd_int) (pd_v 1)) (pdg_sub (pd_v 0) pd_int)) (pds_one (pds_ret (pd_v 4))))))))
noncomputable def F__law_draw : Fn := fnB 5 (m__law_draw F__law_spread)
theorem G__law_draw (T : Txt K mg) : DefOk P w K mg base cl "_law_draw" 2 2 F__law_draw := ok__law_draw T (k := 1) (G__law_spread T) (by decide)
def m__law_pick (F__law_draw : Fn) : XS :=
  sRet (e2 ixD (eV 1) (eB F__law_draw [eV 0, eB lenD [eV 1]]))
theorem sc__law_pick : FnScope ["pool", "items"] ["pool", "items"] (defScope s__law_pick) := ⟨rfl, rfl, rfl, by decide +kernel, rfl, by decide +kernel, by decide +kernel⟩
theorem ok__law_pick (T : Txt K mg) {k : Nat} {F__law_draw : Fn} {k__law_draw : Nat} (G__law_draw : DefOk P w K mg base cl "_law_draw" k__law_draw 2 F__law_draw) (l__law_draw : k__law_draw ≤ k) : DefOk P w K mg base cl "_law_pick" (k + 1) 2 (fnB 2 (m__law_pick F__law_draw)) := by
  obtain ⟨fd, Fd⟩ := T.d.def_ 8 (d := d__law_pick) rfl
  have sc := sc__law_pick
  have b_len : mg "len" = none := T.f _ (T.d.fact 17 (f := .free "len") rfl)
  refine okD (N := ["pool", "items"]) (ps := ["pool", "items"]) Fd sc (T.g _ (T.d.fact 8 (f := .glo "_law_pick") rfl)) (fun _ _ _ _ _ _ us hl => match us, hl with | [_, _], _ => rfl) fun cdv A outer s H E hr tk ow => ?_
  exact (pds_one (pds_ret (pd_ix (pd_v 1) (pd_call G__law_draw hr tk (pda_cons (pd_v 0) (pda_cons (pd_B cd_len (by rfl) b_len boot_len (pda_cons (pd_v 1) pda_nil)) pda_nil))))))
noncomputable def F__law_pick : Fn := fnB 2 (m__law_pick F__law_draw)
theorem G__law_pick (T : Txt K mg) : DefOk P w K mg base cl "_law_pick" 3 2 F__law_pick := ok__law_pick T (k := 2) (G__law_draw T) (by decide)
noncomputable def m__law_common : XS :=
  sSeq (sWh (tV (e2 gtD (eV 1) (eC (.int 0)))) (sPar 0 1 (eV 1) (e2 modD (eB intD [eV 0]) (eV 1)))) (sRet (eV 0))
theorem sc__law_common : FnScope ["one", "two"] ["one", "two"] (defScope s__law_common) := ⟨rfl, rfl, rfl, by decide +kernel, rfl, by decide +kernel, by decide +kernel⟩
theorem ok__law_common (T : Txt K mg) {k : Nat} : DefOk P w K mg base cl "_law_common" (k + 1) 2 (fnB 2 (m__law_common)) := by
  obtain ⟨fd, Fd⟩ := T.d.def_ 9 (d := d__law_common) rfl
  have sc := sc__law_common
  have b_int : mg "int" = none := T.f _ (T.d.fact 15 (f := .free "int") rfl)
  refine okD (N := ["one", "two"]) (ps := ["one", "two"]) Fd sc (T.g _ (T.d.fact 9 (f := .glo "_law_common") rfl)) (fun _ _ _ _ _ _ us hl => match us, hl with | [_, _], _ => rfl) fun cdv A outer s H E hr tk ow => ?_
  exact (pds_cons (pds_while ow (pdt_cmp od_gt (pd_v 1) pd_int (nomark _)) (pds_one (pds_par 0 1 rfl sc.nd (pd_v 1) (pd_op od_mod (pd_Ty cd_int (by rfl) b_int boot_int (pda_cons (pd_v 0) pda_nil)) (pd_v 1))))) (pds_one (pds_ret (pd_v 0))))
noncomputable def F__law_common : Fn := fnB 2 (m__law_common)
theorem G__law_common (T : Txt K mg) : DefOk P w K mg base cl "_law_common" 1 2 F__law_common := ok__law_common T (k := 0)
def m__law_fraction (F__law_common : Fn) : XS :=
  sSeq (sAsg (eB F__law_common [eB absD [eV 0], eB absD [eV 1]]) (gN 2)) (sRet (eIf (tV (e2 gtD (eV 1) (eC (.int 0)))) (eTup [e2 fdivD (eV 0) (eV 2), e2 fdivD (eV 1) (eV 2)]) (eTup [e2 subD (eC (.int 0)) (e2 fdivD (eV 0) (eV 2)), e2 subD (eC (.int 0)) (e2 fdivD (eV 1) (eV 2))])))
theorem sc__law_fraction : FnScope ["over", "under", "shared"] ["over", "under"] (defScope s__law_fraction) := ⟨rfl, rfl, rfl, by decide +kernel, rfl, by decide +kernel, by decide +kernel⟩
theorem ok__law_fraction (T : Txt K mg) {k : Nat} {F__law_common : Fn} {k__law_common : Nat} (G__law_common : DefOk P w K mg base cl "_law_common" k__law_common 2 F__law_common) (l__law_common : k__law_common ≤ k) : DefOk P w K mg base cl "_law_fraction" (k + 1) 2 (fnB 3 (m__law_fraction F__law_common)) := by
  obtain ⟨fd, Fd⟩ := T.d.def_ 10 (d := d__law_fraction) rfl
  have sc := sc__law_fraction
  have b_abs : mg "abs" = none := T.f _ (T.d.fact 13 (f := .free "abs") rfl)
  refine okD (N := ["over", "under", "shared"]) (ps := ["over", "under"]) Fd sc (T.g _ (T.d.fact 10 (f := .glo "_law_fraction") rfl)) (fun _ _ _ _ _ _ us hl => match us, hl with | [_, _], _ => rfl) fun cdv A outer s H E hr tk ow => ?_
  exact (pds_cons (pds_set 2 sc.nd (pd_call G__law_common hr tk (pda_cons (pd_B cd_abs (by rfl) b_abs boot_abs (pda_cons (pd_v 0) pda_nil)) (pda_cons (pd_B cd_abs (by rfl) b_abs boot_abs (pda_cons (pd_v 1) pda_nil)) pda_nil)))) (pds_one (pds_ret (pd_if (pdt_cmp od_gt (pd_v 1) pd_int (nomark _)) (pd_tup (pda_cons (pd_op od_fdiv (pd_v 0) (pd_v 2)) (pda_cons (pd_op od_fdiv (pd_v 1) (pd_v 2)) pda_nil))) (pd_tup (pda_cons (pd_op od_sub pd_int (pd_op od_fdiv (pd_v 0) (pd_v 2))) (pda_cons (pd_op od_sub pd_int (pd_op od_fdiv (pd_v 1) (pd_v 2))) pda_nil)))))))
noncomputable def F__law_fraction : Fn := fnB 3 (m__law_fraction F__law_common)
theorem G__law_fraction (T : Txt K mg) : DefOk P w K mg base cl "_law_fraction" 2 2 F__law_fraction := ok__law_fraction T (k := 1) (G__law_common T) (by decide)
noncomputable def m__law_same (F__law_same : Fn) : XS :=
  sSeq (sIf (tOrr (tV (e1 (isiD .tuple) (eV 1))) (tV (e1 (isiD .list) (eV 1)))) (sSeq (sIf (tOrr (tV (e2 neD (e1 (isiD .tuple) (eV 1)) (e1 (isiD .tuple) (eV 0)))) (tV (e2 neD (e1 (isiD .list) (eV 1)) (e1 (isiD .list) (eV 0))))) (sRet (eC (.bl false))) (sNext)) (sSeq (sIf (tV (e2 neD (eB lenD [eV 0]) (eB lenD [eV 1]))) (sRet (eC (.bl false))) (sNext)) (sRet (e2 eqD (eB lenD [eLc (iR [eB lenD [eV 1]]) (.one 2) (tNo (tV (eB F__law_same [e2 ixD (eV 0) (eV 2), e2 ixD (eV 1) (eV 2)]))) (eV 2) [2]]) (eC (.int 0)))))) (sNext)) (sSeq (sIf (tV (e2 isND (eV 1) (eC .non))) (sRet (e2 isND (eV 0) (eC .non))) (sNext)) (sSeq (sIf (tOrr (tV (e1 (isiD .bool) (eV 1))) (tV (e1 (isiD .bool) (eV 0)))) (sRet (eAn (e1 (isiD .bool) (eV 1)) (eAn (e1 (isiD .bool) (eV 0)) (e2 eqD (eV 0) (eV 1))))) (sNext)) (sSeq (sIf (tV (e1 (isiD .int) (eV 1))) (sRet (eAn (e1 (isiD .int) (eV 0)) (e2 eqD (eV 0) (eV 1)))) (sNext)) (sRet (eAn (e1 (isiD .str) (eV 0)) (e2 eqD (eV 0) (eV 1)))))))
theorem sc__law_same : FnScope ["actual", "due", "k"] ["actual", "due"] (defScope s__law_same) := ⟨rfl, rfl, rfl, by decide +kernel, rfl, by decide +kernel, by decide +kernel⟩
theorem ok__law_same (T : Txt K mg) {k : Nat} {F__law_same : Fn} {k__law_same : Nat} (G__law_same : DefOk P w K mg base cl "_law_same" k__law_same 2 F__law_same) (l__law_same : k__law_same ≤ k) : DefOk P w K mg base cl "_law_same" (k + 1) 2 (fnB 3 (m__law_same F__law_same)) := by
  obtain ⟨fd, Fd⟩ := T.d.def_ 11 (d := d__law_same) rfl
  have sc := sc__law_same
  have b_isinstance : mg "isinstance" = none := T.f _ (T.d.fact 16 (f := .free "isinstance") rfl)
  have b_tuple : mg "tuple" = none := T.f _ (T.d.fact 21 (f := .free "tuple") rfl)
  have b_list : mg "list" = none := T.f _ (T.d.fact 18 (f := .free "list") rfl)
  have b_len : mg "len" = none := T.f _ (T.d.fact 17 (f := .free "len") rfl)
  have b_range : mg "range" = none := T.f _ (T.d.fact 19 (f := .free "range") rfl)
  have b_bool : mg "bool" = none := T.f _ (T.d.fact 14 (f := .free "bool") rfl)
  have b_int : mg "int" = none := T.f _ (T.d.fact 15 (f := .free "int") rfl)
  have b_str : mg "str" = none := T.f _ (T.d.fact 20 (f := .free "str") rfl)
  refine okD (N := ["actual", "due", "k"]) (ps := ["actual", "due"]) Fd sc (T.g _ (T.d.fact 11 (f := .glo "_law_same") rfl)) (fun _ _ _ _ _ _ us hl => match us, hl with | [_, _], _ => rfl) fun cdv A outer s H E hr tk ow => ?_
  exact (pds_cons (pds_if (pdt_bool (pdw_or (pdt_val (pd_isi .tuple (by rfl) b_isinstance (by rfl) b_tuple boot_isinstance (by decide +kernel) (pd_v 1))) (pdw_or1 (pdt_val (pd_isi .list (by rfl) b_isinstance (by rfl) b_list boot_isinstance (by decide +kernel) (pd_v 1)))))) (pds_cons (pds_if (pdt_bool (pdw_or (pdt_cmp (od_ne hr.units) (pd_isi .tuple (by rfl) b_isinstance (by rfl) b_tuple boot_isinstance (by decide +kernel) (pd_v 1)) (pd_isi .tuple (by rfl) b_isinstance (by rfl) b_tuple boot_isinstance (by decide +kernel) (pd_v 0)) (nomark _)) (pdw_or1 (pdt_cmp (od_ne hr.units) (pd_isi .list (by rfl) b_isinstance (by rfl) b_list boot_isinstance (by decide +kernel) (pd_v 1)) (pd_isi .list (by rfl) b_isinstance (by rfl) b_list boot_isinstance (by decide +kernel) (pd_v 0)) (nomark _))))) (pds_one (pds_ret pd_bl)) pds_nil) (pds_cons (pds_if (pdt_cmp (od_ne hr.units) (pd_B cd_len (by rfl) b_len boot_len (pda_cons (pd_v 0) pda_nil)) (pd_B cd_len (by rfl) b_len boot_len (pda_cons (pd_v 1) pda_nil)) (nomark _)) (pds_one (pds_ret pd_bl)) pds_nil) (pds_one (pds_ret (pd_cmp (od_eq hr.units) (pd_B cd_len (by rfl) b_len boot_len (pda_cons (pd_lc (own := [("k", 2)]) (g := .one 2) rfl sc.nd (pdi_rng1 (by rfl) b_range (pd_B cd_len (by rfl) b_len boot_len (pda_cons (pd_v 1) pda_nil))) (by kernel_rfl) (fun _ _ _ _ _ => (pg_name (i := 2) sc.nd rfl (Or.inl rfl))) (fun _ _ _ _ _ => (pts_one (pdt_not (pdt_val (pd_call G__law_same hr takes0 (pda_cons (pd_ix (pd_v 0) (pd_v 2)) (pda_cons (pd_ix (pd_v 1) (pd_v 2)) pda_nil))))))) (fun _ _ _ _ _ => (pd_v 2))) pda_nil)) pd_int (nomark _)))))) pds_nil) (pds_cons (pds_if (pdt_cmp od_isN (pd_v 1) pd_non (nomark _)) (pds_one (pds_ret (pd_cmp od_isN (pd_v 0) pd_non (nomark _)))) pds_nil) (pds_cons (pds_if (pdt_bool (pdw_or (pdt_val (pd_isi .bool (by rfl) b_isinstance (by rfl) b_bool boot_isinstance (by decide +kernel) (pd_v 1))) (pdw_or1 (pdt_val (pd_isi .bool (by rfl) b_isinstance (by rfl) b_bool boot_isinstance (by decide +kernel) (pd_v 0)))))) (pds_one (pds_ret (pd_and (pd_isi .bool (by rfl) b_isinstance (by rfl) b_bool boot_isinstance (by decide +kernel) (pd_v 1)) (pd_and (pd_isi .bool (by rfl) b_isinstance (by rfl) b_bool boot_isinstance (by decide +kernel) (pd_v 0)) (pd_one (pd_cmp (od_eq hr.units) (pd_v 0) (pd_v 1) (nomark _))))))) pds_nil) (pds_cons (pds_if (pdt_val (pd_isi .int (by rfl) b_isinstance (by rfl) b_int boot_isinstance (by decide +kernel) (pd_v 1))) (pds_one (pds_ret (pd_and (pd_isi .int (by rfl) b_isinstance (by rfl) b_int boot_isinstance (by decide +kernel) (pd_v 0)) (pd_one (pd_cmp (od_eq hr.units) (pd_v 0) (pd_v 1) (nomark _)))))) pds_nil) (pds_one (pds_ret (pd_and (pd_isi .str (by rfl) b_isinstance (by rfl) b_str boot_isinstance (by decide +kernel) (pd_v 0)) (pd_one (pd_cmp (od_eq hr.units) (pd_v 0) (pd_v 1) (nomark _))))))))))
noncomputable def R__law_same : Nat → Fn
  | 0 => fun _ _ => none
  | d + 1 => fnB 3 (m__law_same (R__law_same d))
noncomputable def F__law_same : Fn := R__law_same 6
theorem GR__law_same (T : Txt K mg) : ∀ d, DefOk P w K mg base cl "_law_same" (1 + d) 2 (R__law_same d)
  | 0 => by
    obtain ⟨fd, Fd⟩ := T.d.def_ 11 (d := d__law_same) rfl
    exact okD0 (ps := ["actual", "due"]) Fd (T.g _ (T.d.fact 11 (f := .glo "_law_same") rfl)) (fun _ _ _ _ _ _ us hl => match us, hl with | [_, _], _ => rfl)
  | d + 1 => ok__law_same T (k := 1 + d) (GR__law_same T d) (Nat.le_refl _)
theorem G__law_same (T : Txt K mg) : DefOk P w K mg base cl "_law_same" 7 2 F__law_same := GR__law_same T 6
noncomputable def m_law (F__law_pool : Fn) (F__law_draw : Fn) (F__law_pick : Fn) (F__law_fraction : Fn) (F__law_same : Fn) (F_line_at : Fn) : XS :=
  sSeq (sAsg (eB F__law_pool [eV 0]) (gN 1)) (sSeq (sAsg (eTup [eB F__law_draw [eV 1, eC (.int 5)], eB F__law_pick [eV 1, eLst [eC (.int 5), eC (.int 10000000000)]]]) (gT [gN 2, gN 3])) (sSeq (sAsg (eTup [e2 subD (eB F__law_draw [eV 1, eV 3]) (e2 fdivD (eV 3) (eC (.int 2))), eB tupleD [eLc (iR [eV 2]) (.one 9) (tAll) (e2 subD (eB F__law_draw [eV 1, eV 3]) (e2 fdivD (eV 3) (eC (.int 2)))) [9]]]) (gN 4)) (sSeq (sAsg (eLc (iR [eV 2]) (.one 9) (tAll) (eB F__law_fraction [eB F__law_draw [eV 1, eV 3], e2 addD (eC (.int 1)) (eB F__law_draw [eV 1, eV 3])]) [9]) (gN 5)) (sSeq (sAsg (eTup [e2 ixD (eV 4) (eC (.int 0)), eC (.int 1)]) (gN 6)) (sSeq (sFor (iZ [e2 ixD (eV 4) (eC (.int 1)), eV 5]) (gT [gN 7, gN 8]) (sAsg (eB F__law_fraction [e2 addD (e2 mulD (e2 ixD (eV 6) (eC (.int 0))) (e2 ixD (eV 8) (eC (.int 1)))) (e2 mulD (e2 mulD (eV 7) (e2 ixD (eV 8) (eC (.int 0)))) (e2 ixD (eV 6) (eC (.int 1)))), e2 mulD (e2 ixD (eV 6) (eC (.int 1))) (e2 ixD (eV 8) (eC (.int 1)))]) (gN 6))) (sRet (eB F__law_same [eLst [eB F_line_at [eV 4, eB listD [eV 5]], eB F_line_at [eTup [e2 ixD (eV 4) (eC (.int 0)), eTup []], eLst []]], eLst [eV 6, eTup [e2 ixD (eV 4) (eC (.int 0)), eC (.int 1)]]])))))))
theorem sc_law : FnScope ["script", "pool", "many", "great", "line", "values", "due", "factor", "value", "k"] ["script"] (defScope s_law) := ⟨rfl, rfl, rfl, by decide +kernel, rfl, by decide +kernel, by decide +kernel⟩
theorem ok_law (T : Txt K mg) {fd : FuncData} {f : Addr} (Fd : FunD K "law" "law" (defArgs s_law) (defBody s_law) (defScope s_law) [] [] f fd) {k : Nat} {F__law_pool : Fn} {k__law_pool : Nat} (G__law_pool : DefOk P w K mg base cl "_law_pool" k__law_pool 1 F__law_pool) {F__law_draw : Fn} {k__law_draw : Nat} (G__law_draw : DefOk P w K mg base cl "_law_draw" k__law_draw 2 F__law_draw) {F__law_pick : Fn} {k__law_pick : Nat} (G__law_pick : DefOk P w K mg base cl "_law_pick" k__law_pick 2 F__law_pick) {F__law_fraction : Fn} {k__law_fraction : Nat} (G__law_fraction : DefOk P w K mg base cl "_law_fraction" k__law_fraction 2 F__law_fraction) {F__law_same : Fn} {k__law_same : Nat} (G__law_same : DefOk P w K mg base cl "_law_same" k__law_same 2 F__law_same) {F_line_at : Fn} {k_line_at : Nat} (G_line_at : DefOk P w K mg base cl "line_at" k_line_at 2 F_line_at) (l__law_pool : k__law_pool ≤ k) (l__law_draw : k__law_draw ≤ k) (l__law_pick : k__law_pick ≤ k) (l__law_fraction : k__law_fraction ≤ k) (l__law_same : k__law_same ≤ k) (l_line_at : k_line_at ≤ k) : FnOk P w K mg base (L2.CX P w) (k + 1) f fd ["script"] (spD K cl 1 (fnB 10 (m_law F__law_pool F__law_draw F__law_pick F__law_fraction F__law_same F_line_at))) := by
  have sc := sc_law
  have b_range : mg "range" = none := T.f _ (T.d.fact 19 (f := .free "range") rfl)
  have b_tuple : mg "tuple" = none := T.f _ (T.d.fact 21 (f := .free "tuple") rfl)
  have b_zip : mg "zip" = none := T.f _ (T.d.fact 22 (f := .free "zip") rfl)
  have b_list : mg "list" = none := T.f _ (T.d.fact 18 (f := .free "list") rfl)
  refine okDf (N := ["script", "pool", "many", "great", "line", "values", "due", "factor", "value", "k"]) (ps := ["script"]) Fd sc fun cdv A outer s H E hr tk ow => ?_
  exact (pds_cons (pds_set 1 sc.nd (pd_call G__law_pool hr tk (pda_cons (pd_v 0) pda_nil))) (pds_cons (pds_asg (pd_tup (pda_cons (pd_call G__law_draw hr tk (pda_cons (pd_v 1) (pda_cons pd_int pda_nil))) (pda_cons (pd_call G__law_pick hr tk (pda_cons (pd_v 1) (pda_cons (pd_lst (pda_cons pd_int (pda_cons pd_int pda_nil))) pda_nil))) pda_nil))) (pdg_tup rfl (pdgs_cons (pdg_name 2 sc.nd) (pdgs_cons (pdg_name 3 sc.nd) pdgs_nil)))) (pds_cons (pds_set 4 sc.nd (pd_tup (pda_cons (pd_op od_sub (pd_call G__law_draw hr tk (pda_cons (pd_v 1) (pda_cons (pd_v 3) pda_nil))) (pd_op od_fdiv (pd_v 3) pd_int)) (pda_cons (pd_Ty cd_tuple (by rfl) b_tuple boot_tuple (pda_cons (pd_lc (own := [("k", 9)]) (g := .one 9) rfl sc.nd (pdi_rng1 (by rfl) b_range (pd_v 2)) (by kernel_rfl) (fun _ _ _ _ _ => (pg_name (i := 9) sc.nd rfl (Or.inl rfl))) (fun _ _ _ _ _ => pts_all) (fun _ _ _ _ _ => (pd_op od_sub (pd_call G__law_draw hr takes0 (pda_cons (pd_v 1) (pda_cons (pd_v 3) pda_nil))) (pd_op od_fdiv (pd_v 3) pd_int)))) pda_nil)) pda_nil)))) (pds_cons (pds_setLc 5 (own := [("k", 9)]) (g := .one 9) rfl sc.nd (pdi_rng1 (by rfl) b_range (pd_v 2)) (by kernel_rfl) (fun _ _ _ _ _ => (pg_name (i := 9) sc.nd rfl (Or.inl rfl))) (fun _ _ _ _ _ => pts_all) (fun _ _ _ _ _ => (pd_call G__law_fraction hr takes0 (pda_cons (pd_call G__law_draw hr takes0 (pda_cons (pd_v 1) (pda_cons (pd_v 3) pda_nil))) (pda_cons (pd_op od_add pd_int (pd_call G__law_draw hr takes0 (pda_cons (pd_v 1) (pda_cons (pd_v 3) pda_nil)))) pda_nil))))) (pds_cons (pds_set 6 sc.nd (pd_tup (pda_cons (pd_ix (pd_v 4) pd_int) (pda_cons pd_int pda_nil)))) (pds_cons (pds_for ow rfl (pdi_zip (by rfl) b_zip (pd_ix (pd_v 4) pd_int) (pd_v 5)) (pdg_tup rfl (pdgs_cons (pdg_name 7 sc.nd) (pdgs_cons (pdg_name 8 sc.nd) pdgs_nil))) (pds_one (pds_set 6 sc.nd (pd_call G__law_fraction hr tk (pda_cons (pd_op od_add (pd_op od_mul (pd_ix (pd_v 6) pd_int) (pd_ix (pd_v 8) pd_int)) (pd_op od_mul (pd_op od_mul (pd_v 7) (pd_ix (pd_v 8) pd_int)) (pd_ix (pd_v 6) pd_int))) (pda_cons (pd_op od_mul (pd_ix (pd_v 6) pd_int) (pd_ix (pd_v 8) pd_int)) pda_nil)))))) (pds_one (pds_ret (pd_call G__law_same hr tk (pda_cons (pd_lst (pda_cons (pd_call G_line_at hr tk (pda_cons (pd_v 4) (pda_cons (pd_Ty cd_list (by rfl) b_list boot_list (pda_cons (pd_v 5) pda_nil)) pda_nil))) (pda_cons (pd_call G_line_at hr tk (pda_cons (pd_tup (pda_cons (pd_ix (pd_v 4) pd_int) (pda_cons (pd_tup pda_nil) pda_nil))) (pda_cons (pd_lst pda_nil) pda_nil))) pda_nil))) (pda_cons (pd_lst (pda_cons (pd_v 6) (pda_cons (pd_tup (pda_cons (pd_ix (pd_v 4) pd_int) (pda_cons pd_int pda_nil))) pda_nil))) pda_nil)))))))))))
noncomputable def F_law : Fn := fnB 10 (m_law F__law_pool F__law_draw F__law_pick F__law_fraction F__law_same F_line_at)
theorem GF_law (T : Txt K mg) {fd : FuncData} {f : Addr} (Fd : FunD K "law" "law" (defArgs s_law) (defBody s_law) (defScope s_law) [] [] f fd) : FnOk P w K mg base (L2.CX P w) 8 f fd ["script"] (spD K cl 1 F_law) := ok_law T Fd (k := 7) (G__law_pool T) (G__law_draw T) (G__law_pick T) (G__law_fraction T) (G__law_same T) (G_line_at T) (by decide) (by decide) (by decide) (by decide) (by decide) (by decide)
end
end Law
namespace Law
open PySem PySem.Spec PyProof.Rows L2
def ex (K : PySem.W.Frag) : Bool := true
abbrev R : PySem.W.OpenRow := PySem.W.OpenLaw.row PySem.Challenge.rw_degreewise_k04_lines_at_values
abbrev hk : PySem.W.Hook := He.hookX 4 fa fn [] [] ex
def ob (s : PySem.W.SharedT) : He.AlX := He.obsX 4 fa fn [] [] ex (HandSHeadRun.getT s)
theorem ob_eq (s : PySem.W.SharedT) : ob s = hk.obs s.abs := He.obsX_eq (HandSHeadRun.getT_eq s)
def names0 : List PySem.Str := [("common" : PySem.Str), ("fraction" : PySem.Str), ("added" : PySem.Str), ("times" : PySem.Str), ("line_at" : PySem.Str), ("_law_pool" : PySem.Str), ("_law_spread" : PySem.Str), ("_law_draw" : PySem.Str), ("_law_pick" : PySem.Str), ("_law_common" : PySem.Str), ("_law_fraction" : PySem.Str), ("_law_same" : PySem.Str)]
def names : List PySem.Str := names0
theorem run (w : World) : HandSHeadRun.RunEq R (PySem.W.view R.prog [15]) hk ob 3000 names w := by
  intro os
  kernel_rfl
end Law
section
set_option maxHeartbeats 4000000
set_option maxRecDepth 20000
namespace Law
open PySem PySem.Spec PyProof.Rows L2 DL
theorem gcd_loop : ∀ (n : Nat) (a b : Nat) (M : MS), b ≤ n → sWh (tV (e2 gtD (eV 1) (eC (.int 0)))) (sPar 0 1 (eV 1) (e2 modD (eV 0) (eV 1))) [some (.int a), some (.int b)] M = some (.ok (.nx [some (.int (Nat.gcd a b)), some (.int 0)]), M) := by
  intro n
  induction n with
  | zero =>
    intro a b M h
    have hb : b = 0 := by omega
    subst hb
    rw [Nat.gcd_zero_right]
    exact sWh_false (by simp [tV, e2, eV, eC, gtD, cmpD, bOf])
  | succ n ih =>
    intro a b M h
    by_cases hb : b = 0
    · subst hb
      rw [Nat.gcd_zero_right]
      exact sWh_false (by simp [tV, e2, eV, eC, gtD, cmpD, bOf])
    · have hlt := Nat.mod_lt a (by omega : b > 0)
      refine sWh_true (M1 := M) (M2 := M) (ρ2 := [some (.int b), some (.int (a % b : Nat))]) (by simp [tV, e2, eV, eC, gtD, cmpD, bOf]; omega) ?_ ?_
      · simp [sPar, aL, e2, eV, modD]
        rw [if_pos (by omega)]
        rfl
      · rw [ih b (a % b) M (by omega), Nat.gcd_comm b, ← Nat.gcd_rec, Nat.gcd_comm]
theorem common_ok (a b : Nat) (M : MS) : F_common [.int a, .int b] M = some (.ok (.int (Nat.gcd a b)), M) := by
  simp only [F_common, m_common, fnB, sSeq, x_assoc, List.map, List.length, List.replicate, List.append_nil, Nat.sub_self]
  rw [Mo.bnd_of (gcd_loop b a b M (Nat.le_refl _))]
  simp [seqK, sRet, eV, fnK]

def gI (o u : Int) : Int := (Nat.gcd o.natAbs u.natAbs : Nat)
def mkF (o u : Int) : Int × Int := if u < 0 then (-o / gI o u, -u / gI o u) else (o / gI o u, u / gI o u)
def dF (p : Int × Int) : D := .tup [.int p.1, .int p.2]
theorem gI_pos {o u : Int} (h : u ≠ 0) : 0 < gI o u := by
  have : 0 < Nat.gcd o.natAbs u.natAbs := Nat.gcd_pos_of_pos_right _ (by omega)
  unfold gI; omega
theorem gI_le {o u : Int} (h : u ≠ 0) : (gI o u).natAbs ≤ u.natAbs := by
  have : Nat.gcd o.natAbs u.natAbs ≤ u.natAbs := Nat.gcd_le_right _ (by omega)
  unfold gI; omega
theorem common_int {a b : Int} (ha : 0 ≤ a) (hb : 0 ≤ b) (M : MS) : F_common [.int a, .int b] M = some (.ok (.int (gI a b)), M) := by
  obtain ⟨m, rfl⟩ := Int.eq_ofNat_of_zero_le ha
  obtain ⟨n, rfl⟩ := Int.eq_ofNat_of_zero_le hb
  rw [common_ok]; rfl
/-- small enough numbers -/
def Sm (n : Nat) (i : Int) : Prop := i.natAbs < 2 ^ n
theorem log2_lt {i : Int} {n : Nat} (h : Sm n i) (hn : 0 < n) : i.natAbs.log2 < n := PySem.Flt.log2_lt_of hn h
theorem divOk_of {j : Int} {n : Nat} (h0 : 0 < j) (h : Sm n j) (hn : 0 < n) (h9 : n ≤ 9000) : divOk j = true := by
  unfold divOk
  rw [decide_eq_true h0, decide_eq_true (Nat.lt_of_lt_of_le (log2_lt h hn) h9)]; rfl
theorem mulOk_of {i j : Int} {a b : Nat} (hi : Sm a i) (hj : Sm b j) (ha : 0 < a) (hb : 0 < b) (h : a + b ≤ 1000000) : mulOk i j = true := by
  unfold mulOk
  have := log2_lt hi ha
  have := log2_lt hj hb
  exact decide_eq_true (by omega)
theorem Sm.gI {n : Nat} {o u : Int} (h : Sm n u) (hu : u ≠ 0) : Sm n (gI o u) := Nat.lt_of_le_of_lt (gI_le hu) h
theorem fraction_ok {o u : Int} (hu : u ≠ 0) (hs : Sm 9000 u) (M : MS) : F_fraction [.int o, .int u] M = some (.ok (dF (mkF o u)), M) := by
  have hd := divOk_of (gI_pos (o := o) hu) (hs.gI hu) (by decide) (by decide)
  by_cases h : u < 0
  · have hc := common_int (a := (o.natAbs : Int)) (b := -u) (by omega) (by omega) M
    have eg : gI (o.natAbs : Int) (-u) = gI o u := by unfold gI; simp
    rw [eg] at hc
    simp [F_fraction, m_fraction, fnB, sSeq, sIf, tV, e2, eV, eC, ltD, cmpD, bOf, h, sPar, aL, e1, negD, Mo.bnd, Mo.ret, Mo.opt, sAsg, eB, absD, hc, gN, seqK, sNext, sRet, eTup, fdivD, hd, fnK, dF, mkF]
  · have hc := common_int (a := (o.natAbs : Int)) (b := u) (by omega) (by omega) M
    have eg : gI (o.natAbs : Int) u = gI o u := by unfold gI; simp
    rw [eg] at hc
    simp [F_fraction, m_fraction, fnB, sSeq, sIf, tV, e2, eV, eC, ltD, cmpD, bOf, h, sPar, aL, e1, negD, Mo.bnd, Mo.ret, Mo.opt, sAsg, eB, absD, hc, gN, seqK, sNext, sRet, eTup, fdivD, hd, fnK, dF, mkF]
theorem Sm.mul {a b : Nat} {i j : Int} (hi : Sm a i) (hj : Sm b j) : Sm (a + b) (i * j) := wide_lt hi hj
theorem Sm.add {a : Nat} {i j : Int} (hi : Sm a i) (hj : Sm a j) : Sm (a + 1) (i + j) := by
  unfold Sm at *
  have : 2 ^ (a + 1) = 2 ^ a + 2 ^ a := by rw [Nat.pow_succ]; omega
  omega
theorem Sm.mono {a b : Nat} {i : Int} (h : Sm a i) (l : a ≤ b) : Sm b i := Nat.lt_of_lt_of_le h (Nat.pow_le_pow_right (by decide) l)
theorem Sm.neg {a : Nat} {i : Int} (h : Sm a i) : Sm a (-i) := by unfold Sm at *; omega
theorem ix0 (a b : D) (M : MS) : ixD (.tup [a, b]) (.int 0) M = some (.ok a, M) := rfl
theorem ix1 (a b : D) (M : MS) : ixD (.tup [a, b]) (.int 1) M = some (.ok b, M) := rfl
theorem added_ok {a b c d : Int} (hb : b ≠ 0) (hd : d ≠ 0) (s1 : Sm 4000 a) (s2 : Sm 4000 b) (s3 : Sm 4000 c) (s4 : Sm 4000 d) (M : MS) :
    F_added [dF (a, b), dF (c, d)] M = some (.ok (dF (mkF (a * d + c * b) (b * d))), M) := by
  have m1 := mulOk_of s1 s4 (by decide) (by decide) (by decide)
  have m2 := mulOk_of s3 s2 (by decide) (by decide) (by decide)
  have m3 := mulOk_of s2 s4 (by decide) (by decide) (by decide)
  have hf := fraction_ok (o := a * d + c * b) (u := b * d) (Int.mul_ne_zero hb hd) ((s2.mul s4).mono (by decide)) M
  simp [F_added, m_added, fnB, sRet, eB, aL, e2, eV, eC, dF, Mo.bnd, Mo.ret, Mo.opt, ix0, ix1, mulD, addD, m1, m2, m3, fnK] at hf ⊢
  simp [hf, fnK, Mo.ret]

def isIntB : D → Bool
  | .int _ => true
  | _ => false
theorem blsOf_map {α : Type} {f : α → Bool} : ∀ xs : List α, blsOf (xs.map fun x => D.bl (f x)) = some (xs.map f)
  | [] => rfl
  | x :: xs => by simp [blsOf, blsOf_map xs]
def isFr : D → Bool
  | .tup [.int a, .int b] => decide (1 ≤ b) && decide (gI a b = 1)
  | _ => false
theorem plain_tup2 {a b : D} (h : DL.plain (.tup [a, b]) = true) : DL.plain a = true ∧ DL.plain b = true := by
  simp [DL.plain, plains] at h; exact h
instance {n : Nat} {i : Int} : Decidable (Sm n i) := inferInstanceAs (Decidable (_ < _))
structure PoolS where
  xs : List Int
  at_ : Int
  cur : Int
  cnt : Int
  salt : Int
def poolL (q : PoolS) : MO := .lst [.lst (q.xs.map D.int), .int q.at_, .int q.cur, .int q.cnt, .int q.salt]
structure PoolOk (q : PoolS) (c : Nat) : Prop where
  len : q.xs.length ≤ 1000
  at0 : 0 ≤ q.at_
  cnt0 : 0 ≤ q.cnt
  cnt1 : q.cnt ≤ c
  salt0 : 0 ≤ q.salt
  salt1 : q.salt < 1000003
section
variable {M : MS} {p : Nat} {q : PoolS}
theorem ixP0 (h : M[p]? = some (poolL q)) : ixD (.obj p) (.int 0) M = some (.ok (.lst (q.xs.map D.int)), M) := by
  unfold ixD; simp only [seqOf, lstOf, h, poolL]; rfl
theorem ixP1 (h : M[p]? = some (poolL q)) : ixD (.obj p) (.int 1) M = some (.ok (.int q.at_), M) := by
  unfold ixD; simp only [seqOf, lstOf, h, poolL]; rfl
theorem ixP2 (h : M[p]? = some (poolL q)) : ixD (.obj p) (.int 2) M = some (.ok (.int q.cur), M) := by
  unfold ixD; simp only [seqOf, lstOf, h, poolL]; rfl
theorem ixP3 (h : M[p]? = some (poolL q)) : ixD (.obj p) (.int 3) M = some (.ok (.int q.cnt), M) := by
  unfold ixD; simp only [seqOf, lstOf, h, poolL]; rfl
theorem ixP4 (h : M[p]? = some (poolL q)) : ixD (.obj p) (.int 4) M = some (.ok (.int q.salt), M) := by
  unfold ixD; simp only [seqOf, lstOf, h, poolL]; rfl
theorem setP1 (h : M[p]? = some (poolL q)) (v : Int) : setD (.obj p) (.int 1) (.int v) M = some (.ok (), M.set p (poolL { q with at_ := v })) := by
  unfold setD; simp only [h, poolL]; rfl
theorem setP2 (h : M[p]? = some (poolL q)) (v : Int) : setD (.obj p) (.int 2) (.int v) M = some (.ok (), M.set p (poolL { q with cur := v })) := by
  unfold setD; simp only [h, poolL]; rfl
theorem setP3 (h : M[p]? = some (poolL q)) (v : Int) : setD (.obj p) (.int 3) (.int v) M = some (.ok (), M.set p (poolL { q with cnt := v })) := by
  unfold setD; simp only [h, poolL]; rfl
theorem poolSet (h : M[p]? = some (poolL q)) (q' : PoolS) : (M.set p (poolL q'))[p]? = some (poolL q') := by
  rw [List.getElem?_set_self (List.getElem?_eq_some_iff.mp h).1]
theorem ixL {ds : List D} {i : Int} {d : D} (h : atI ds i = some d) : ixD (.lst ds) (.int i) M = some (.ok d, M) := by
  unfold ixD; simp only [seqOf, lstOf, h]
end
theorem Sm.of_lt {n : Nat} {i : Int} (h0 : 0 ≤ i) (h : i < 2 ^ n) : Sm n i := by
  unfold Sm
  have : ((i.natAbs : Int)) < ((2 ^ n : Nat) : Int) := by rw [Int.natAbs_of_nonneg h0]; simpa using h
  exact_mod_cast this
theorem rng4 : rngL 0 4 = [.int 0, .int 1, .int 2, .int 3] := rfl
/-- the spread of a number: some number -/
theorem spread_ok (c : Int) (M : MS) : wp (F__law_spread [.int c]) M fun v M' => M' = M ∧ ∃ i, v = .int i := by
  have r0 : ((0:Int) < 2147483647) = True := by simp
  unfold F__law_spread m__law_spread
  simp -dsimp [r0, rng4, small62]
  refine wp_loopF (fun rest ρ M' => M' = M ∧ (∀ x ∈ rest, ∃ j : Int, x = .int j ∧ 0 ≤ j ∧ j ≤ 3) ∧ rest.length ≤ 4 ∧ ∃ b s k, ρ = [some (.int c), some (.int b), some (.int s), k] ∧ 0 ≤ b ∧ b < 2 ^ 31 ∧ Sm (32 * (5 - rest.length)) s) ?_ ?_ _ _ _ ?_
  · rintro ρ M' ⟨rfl, _, _, b, s, k, rfl, _⟩
    simp
  · rintro x rest ρ M' ⟨rfl, hr, hl, b, s, k, rfl, hb0, hb1, hs⟩
    obtain ⟨j, rfl, hj0, hj1⟩ := hr x List.mem_cons_self
    simp only [List.length_cons] at hl hs
    have m1 : mulOk b 48271 = true := mulOk_of (a := 31) (b := 31) (Sm.of_lt hb0 hb1) (by decide) (by decide) (by decide) (by decide)
    have m2 : mulOk s 2147483647 = true := mulOk_of (a := 32 * (5 - (rest.length + 1))) (b := 31) hs (by decide) (by omega) (by decide) (by omega)
    simp -dsimp [r0, m1, m2]
    refine ⟨fun x hx => hr x (List.mem_cons_of_mem _ hx), by omega, _, _, ⟨rfl, rfl⟩, Int.emod_nonneg _ (by decide), ?_, ?_⟩
    · have := Int.emod_lt_of_pos (b * 48271 + 12345 + j) (show (0:Int) < 2147483647 by decide)
      omega
    · have h1 : Sm (32 * (5 - (rest.length + 1)) + 31) (s * 2147483647) := hs.mul (by decide)
      have h2 : Sm 31 ((b * 48271 + 12345 + j) % 2147483647) := Sm.of_lt (Int.emod_nonneg _ (by decide)) (by
        have := Int.emod_lt_of_pos (b * 48271 + 12345 + j) (show (0:Int) < 2147483647 by decide)
        omega)
      have := Sm.add h1 (h2.mono (by omega))
      exact this.mono (by omega)
  · refine ⟨rfl, ?_, by decide, _, _, _, rfl, Int.emod_nonneg _ (by decide), ?_, by decide⟩
    · simp
    · have := Int.emod_lt_of_pos c (show (0:Int) < 2147483647 by decide)
      omega

section
variable {M : MS} {p : Nat} {q : PoolS} {Q : D → MS → Prop} {QU : Unit → MS → Prop}
theorem setSelf (hp : p < M.length) (mo : MO) : (M.set p mo)[p]? = some mo := List.getElem?_set_self hp
theorem w_ixP0 (hp : p < M.length) : wp (ixD (.obj p) (.int 0)) (M.set p (poolL q)) Q = Q (.lst (q.xs.map D.int)) (M.set p (poolL q)) := wp_of (ixP0 (setSelf hp _))
theorem w_ixP1 (hp : p < M.length) : wp (ixD (.obj p) (.int 1)) (M.set p (poolL q)) Q = Q (.int q.at_) (M.set p (poolL q)) := wp_of (ixP1 (setSelf hp _))
theorem w_ixP2 (hp : p < M.length) : wp (ixD (.obj p) (.int 2)) (M.set p (poolL q)) Q = Q (.int q.cur) (M.set p (poolL q)) := wp_of (ixP2 (setSelf hp _))
theorem w_ixP3 (hp : p < M.length) : wp (ixD (.obj p) (.int 3)) (M.set p (poolL q)) Q = Q (.int q.cnt) (M.set p (poolL q)) := wp_of (ixP3 (setSelf hp _))
theorem w_ixP4 (hp : p < M.length) : wp (ixD (.obj p) (.int 4)) (M.set p (poolL q)) Q = Q (.int q.salt) (M.set p (poolL q)) := wp_of (ixP4 (setSelf hp _))
theorem w_setP1 (hp : p < M.length) {v : Int} : wp (setD (.obj p) (.int 1) (.int v)) (M.set p (poolL q)) QU = QU () (M.set p (poolL { q with at_ := v })) := by
  rw [wp_of (setP1 (setSelf hp _) v), List.set_set]
theorem w_setP2 (hp : p < M.length) {v : Int} : wp (setD (.obj p) (.int 2) (.int v)) (M.set p (poolL q)) QU = QU () (M.set p (poolL { q with cur := v })) := by
  rw [wp_of (setP2 (setSelf hp _) v), List.set_set]
theorem w_setP3 (hp : p < M.length) {v : Int} : wp (setD (.obj p) (.int 3) (.int v)) (M.set p (poolL q)) QU = QU () (M.set p (poolL { q with cnt := v })) := by
  rw [wp_of (setP3 (setSelf hp _) v), List.set_set]
end
theorem draw_ok {M : MS} {p : Nat} {q : PoolS} {c : Nat} {many : Int} (hp : p < M.length) (ok : PoolOk q c) (hc : c ≤ 1000000) (h0 : 0 < many) (h1 : Sm 64 many) :
    wp (F__law_draw [.obj p, .int many]) (M.set p (poolL q)) fun r M' => ∃ v q', r = .int v ∧ 0 ≤ v ∧ v < many ∧ M' = M.set p (poolL q') ∧ PoolOk q' (c + 1) := by
  have dm : divOk many = true := divOk_of h0 h1 (by decide) (by decide)
  unfold F__law_draw m__law_draw
  rw [w_fnB, w_sSeq]
  refine wp_mono (Q := fun r M1 => ∃ q1 x, r = .nx [some (.obj p), some (.int many), x, none, none] ∧ M1 = M.set p (poolL q1) ∧ PoolOk q1 c) ?_ ?_
  · by_cases ca : q.cur ≤ 0
    · by_cases cb : q.at_ < q.xs.length
      · have hat := ok.at0
        obtain ⟨n, hn⟩ := Int.eq_ofNat_of_zero_le hat
        have hn2 : n < q.xs.length := by omega
        have hix : atI (q.xs.map D.int) q.at_ = some (.int q.xs[n]) := by
          unfold atI ixN
          rw [if_pos hat, if_pos (by simpa using cb)]
          simp [hn, hn2]
        by_cases cc : q.xs[n] < 1000000000000000000
        · simp -dsimp [w_ixP0 hp, w_ixP1 hp, w_ixP2 hp, w_setP1 hp, w_setP2 hp, ca, cb, hix, cc]
          refine wp_mono (spread_ok _ _) ?_
          rintro v M' ⟨rfl, i, rfl⟩
          simp -dsimp [w_setP2 hp]
          exact ⟨_, rfl, ⟨ok.len, by show 0 ≤ q.at_ + 1; omega, ok.cnt0, ok.cnt1, ok.salt0, ok.salt1⟩⟩
        · simp -dsimp [w_ixP0 hp, w_ixP1 hp, w_ixP2 hp, w_setP1 hp, w_setP2 hp, ca, cb, hix, cc]
          exact ⟨_, rfl, ⟨ok.len, by show 0 ≤ q.at_ + 1; omega, ok.cnt0, ok.cnt1, ok.salt0, ok.salt1⟩⟩
      · simp -dsimp [w_ixP0 hp, w_ixP1 hp, w_ixP2 hp, w_setP1 hp, w_setP2 hp, ca, cb]
        exact ⟨q, rfl, ok⟩
    · simp -dsimp [w_ixP0 hp, w_ixP1 hp, w_ixP2 hp, w_setP1 hp, w_setP2 hp, ca]
      exact ⟨q, rfl, ok⟩
  · rintro r M1 ⟨q1, x, rfl, rfl, ok1⟩
    have hcnt := ok1.cnt1
    have hcnt0 := ok1.cnt0
    have hs0 := ok1.salt0
    have hs1 := ok1.salt1
    have m1 : mulOk q1.salt 48271 = true := mulOk_of (a := 31) (b := 31) (Sm.of_lt hs0 (by omega)) (by decide) (by decide) (by decide) (by decide)
    have m2 : mulOk (q1.cnt + 1) 69621 = true := mulOk_of (a := 31) (b := 31) (Sm.of_lt (by omega) (by omega)) (by decide) (by decide) (by decide) (by decide)
    have ok2 : ∀ u, PoolOk { q1 with cnt := q1.cnt + 1, cur := u } (c + 1) := fun u => ⟨ok1.len, ok1.at0, by show 0 ≤ q1.cnt + 1; omega, by show q1.cnt + 1 ≤ _; omega, hs0, hs1⟩
    by_cases ca : q1.cur ≤ 0
    · have r0 : ((0:Int) < 2147483647) = True := by simp
      have r1 : ((0:Int) < 2147483629) = True := by simp
      have r2 : divOk 5 = true := by decide
      have m3 : mulOk ((q1.salt * 48271 + (q1.cnt + 1) * 69621 + 1) % 2147483647) 16807 = true := by
        have a := Int.emod_nonneg (q1.salt * 48271 + (q1.cnt + 1) * 69621 + 1) (show (2147483647 : Int) ≠ 0 by decide)
        have b := Int.emod_lt_of_pos (q1.salt * 48271 + (q1.cnt + 1) * 69621 + 1) (show (0 : Int) < 2147483647 by decide)
        exact mulOk_of (a := 31) (b := 31) (Sm.of_lt a (by omega)) (by decide) (by decide) (by decide) (by decide)
      simp -dsimp [w_ixP2 hp, w_ixP3 hp, w_ixP4 hp, w_setP3 hp, ca, m1, m2, m3, r0, r1, r2, h0]
      exact ⟨Int.emod_nonneg _ (by omega), Int.emod_lt_of_pos _ h0, _, rfl, ok2 _⟩
    · simp -dsimp [w_ixP2 hp, w_ixP3 hp, w_ixP4 hp, w_setP3 hp, w_setP2 hp, ca, dm, h0]
      exact ⟨Int.emod_nonneg _ (by omega), Int.emod_lt_of_pos _ h0, _, rfl, ok2 _⟩
/-- a pick: one of the items -/
theorem pick_ok {M : MS} {p : Nat} {q : PoolS} {c : Nat} {items : List D} (hp : p < M.length) (ok : PoolOk q c) (hc : c ≤ 1000000) (h0 : items ≠ []) (h1 : items.length ≤ 1000000) :
    wp (F__law_pick [.obj p, .lst items]) (M.set p (poolL q)) fun r M' => ∃ q', r ∈ items ∧ M' = M.set p (poolL q') ∧ PoolOk q' (c + 1) := by
  have hl : 0 < items.length := List.length_pos_iff.mpr h0
  unfold F__law_pick m__law_pick
  simp -dsimp
  refine wp_mono (draw_ok hp ok hc (by omega) (Sm.of_lt (by omega) (by omega))) ?_
  rintro r M' ⟨v, q', rfl, hv0, hv1, rfl, ok'⟩
  obtain ⟨n, rfl⟩ := Int.eq_ofNat_of_zero_le hv0
  have hn : n < items.length := by omega
  have hix : atI items (n : Int) = some items[n] := by
    unfold atI ixN
    rw [if_pos hv0, if_pos hv1]
    simp [hn]
  simp -dsimp [hix]
  exact ⟨q', rfl, ok'⟩

theorem law_common_ok {a b : Int} (ha : 0 ≤ a) (hb : 0 ≤ b) (M : MS) : F__law_common [.int a, .int b] M = some (.ok (.int (gI a b)), M) := by
  refine wp_val ?_
  unfold F__law_common m__law_common
  rw [w_fnB, w_sSeq]
  obtain ⟨m, rfl⟩ := Int.eq_ofNat_of_zero_le ha
  obtain ⟨n, rfl⟩ := Int.eq_ofNat_of_zero_le hb
  refine wp_mono (wp_sWh (QF := fun r M1 => M1 = M ∧ ∃ z, r = .nx [some (.int (gI m n)), z]) (fun k ρ M1 => M1 = M ∧ ∃ x y : Nat, ρ = [some (.int x), some (.int y)] ∧ y = k ∧ Nat.gcd x y = Nat.gcd m n) ?_ n _ M ⟨rfl, m, n, rfl, rfl, rfl⟩) ?_
  · rintro k ρ M1 ⟨rfl, x, y, rfl, rfl, hg⟩
    by_cases hy : y = 0
    · subst hy
      simp -dsimp
      rw [Nat.gcd_zero_right] at hg
      exact congrArg Int.ofNat hg
    · have hp : 0 < y := by omega
      have hz : ((0 : Int) < (y : Int)) = True := by simp; omega
      simp -dsimp [hz, hp]
      refine ⟨x % y, Nat.mod_lt _ hp, y, x % y, ⟨rfl, rfl⟩, rfl, ?_⟩
      rw [Nat.gcd_comm y, ← Nat.gcd_rec, Nat.gcd_comm, hg]
  · rintro r M1 ⟨rfl, z, rfl⟩
    simp -dsimp
theorem gI_dvd1 (o u : Int) : gI o u ∣ o := by
  unfold gI
  have := Nat.gcd_dvd_left o.natAbs u.natAbs
  exact Int.ofNat_dvd_left.mpr this
theorem gI_dvd2 (o u : Int) : gI o u ∣ u := by
  unfold gI
  have := Nat.gcd_dvd_right o.natAbs u.natAbs
  exact Int.ofNat_dvd_left.mpr this
theorem law_fraction_ok {o u : Int} (hu : u ≠ 0) (hs : Sm 9000 u) (M : MS) : F__law_fraction [.int o, .int u] M = some (.ok (dF (mkF o u)), M) := by
  have hd := divOk_of (gI_pos (o := o) hu) (hs.gI hu) (by decide) (by decide)
  have hc := law_common_ok (a := (o.natAbs : Int)) (b := (u.natAbs : Int)) (by omega) (by omega) M
  have eg : gI (o.natAbs : Int) (u.natAbs : Int) = gI o u := by unfold gI; simp
  rw [eg] at hc
  refine wp_val ?_
  unfold F__law_fraction m__law_fraction
  by_cases h : 0 < u
  · have h2 : ¬ u < 0 := by omega
    simp -dsimp [wp_of hc, hd, h, dF, mkF, h2]
  · have h2 : u < 0 := by omega
    simp -dsimp [wp_of hc, hd, h, dF, mkF, h2]
    exact ⟨(Int.neg_ediv_of_dvd (gI_dvd1 o u)).symm, (Int.neg_ediv_of_dvd (gI_dvd2 o u)).symm⟩
section
variable {a b c d : Int} {M : MS}
theorem times_ok (hb : b ≠ 0) (hd : d ≠ 0) (s1 : Sm 4000 a) (s2 : Sm 4000 b) (s3 : Sm 4000 c) (s4 : Sm 4000 d) :
    F_times [dF (a, b), dF (c, d)] M = some (.ok (dF (mkF (a * c) (b * d))), M) := by
  have m1 := mulOk_of s1 s3 (by decide) (by decide) (by decide)
  have m2 := mulOk_of s2 s4 (by decide) (by decide) (by decide)
  have hf := fraction_ok (o := a * c) (u := b * d) (Int.mul_ne_zero hb hd) ((s2.mul s4).mono (by decide)) M
  refine wp_val ?_
  unfold F_times m_times
  simp -dsimp [dF, m1, m2] at hf ⊢
  simp -dsimp [wp_of hf]
  rfl
end
theorem pool_ok {ns : List Int} (hl : ns.length ≤ 1000) (M : MS) : wp (F__law_pool [.scr ns]) M fun r M' => ∃ q, r = .obj M.length ∧ M' = M ++ [poolL q] ∧ PoolOk q 0 := by
  unfold F__law_pool m__law_pool
  have r0 : ((0:Int) < 1000003) = True := by simp
  simp -dsimp
  refine wp_loopF (fun rest ρ M' => M' = M ∧ (∀ x ∈ rest, ∃ j : Int, x = .int j) ∧ ∃ s k, ρ = [some (.scr ns), some (.int s), k] ∧ 0 ≤ s ∧ s < 1000003) ?_ ?_ _ _ _ ?_
  · rintro ρ M' ⟨rfl, _, s, k, rfl, h0, h1⟩
    simp -dsimp
    exact ⟨⟨ns, 0, 0, 0, s⟩, rfl, ⟨hl, Int.le_refl _, Int.le_refl _, Int.le_refl _, h0, h1⟩⟩
  · rintro x rest ρ M' ⟨rfl, hr, s, k, rfl, h0, h1⟩
    obtain ⟨j, rfl⟩ := hr x List.mem_cons_self
    have m1 : mulOk s 31 = true := mulOk_of (a := 31) (b := 31) (Sm.of_lt h0 (by omega)) (by decide) (by decide) (by decide) (by decide)
    simp -dsimp [r0, m1]
    exact ⟨fun x hx => hr x (List.mem_cons_of_mem _ hx), Int.emod_nonneg _ (by decide), Int.emod_lt_of_pos _ (by decide)⟩
  · refine ⟨rfl, ?_, _, _, rfl, by decide, by decide⟩
    intro x hx
    obtain ⟨j, _, rfl⟩ := List.mem_map.mp hx
    exact ⟨j, rfl⟩

theorem rng_get {n i : Nat} {x : D} (h : ((List.range n).map fun (j : Nat) => D.int j)[i]? = some x) : i < n ∧ x = .int i := by
  obtain ⟨hl, e⟩ := List.getElem?_eq_some_iff.mp h
  simp at hl e
  exact ⟨hl, e.symm⟩
/-- values that compare with themselves -/
def okS : Nat → D → Bool
  | 0, _ => false
  | k + 1, .tup xs => decide (xs.length ≤ 1000000) && xs.all (okS k)
  | k + 1, .lst xs => decide (xs.length ≤ 1000000) && xs.all (okS k)
  | _ + 1, .non => true
  | _ + 1, .bl _ => true
  | _ + 1, .int _ => true
  | _ + 1, .str _ => true
  | _ + 1, _ => false
theorem same_ok : ∀ (k : Nat) (d : D) (M : MS), okS k d = true → R__law_same k [d, d] M = some (.ok (.bl true), M)
  | 0, _, _, h => nomatch h
  | k + 1, d, M, h => by
    refine wp_val ?_
    unfold R__law_same m__law_same
    cases d with
    | tup xs =>
      simp only [okS, Bool.and_eq_true, decide_eq_true_eq, List.all_eq_true] at h
      simp -dsimp [isT, small62_nat h.1, fits_of h.1]
      refine wp_comI (fun i acc M' => M' = M ∧ acc = []) ?_ ⟨rfl, rfl⟩ ?_
      · rintro i x acc M' hx ⟨rfl, rfl⟩
        obtain ⟨hi, rfl⟩ := rng_get hx
        simp -dsimp [hi]
        refine wp_call (same_ok k xs[i] _ (h.2 _ (List.getElem_mem _))) ?_
        simp
      · rintro ys M' ⟨rfl, rfl⟩
        simp
    | lst xs =>
      simp only [okS, Bool.and_eq_true, decide_eq_true_eq, List.all_eq_true] at h
      simp -dsimp [isT, small62_nat h.1, fits_of h.1]
      refine wp_comI (fun i acc M' => M' = M ∧ acc = []) ?_ ⟨rfl, rfl⟩ ?_
      · rintro i x acc M' hx ⟨rfl, rfl⟩
        obtain ⟨hi, rfl⟩ := rng_get hx
        simp -dsimp [hi]
        refine wp_call (same_ok k xs[i] _ (h.2 _ (List.getElem_mem _))) ?_
        simp
      · rintro ys M' ⟨rfl, rfl⟩
        simp
    | non => simp -dsimp [isT, isNonB]
    | bl b => simp -dsimp [isT, isNonB]
    | int b => simp -dsimp [isT, isNonB]
    | str b => simp -dsimp [isT, isNonB]
    | _ => cases h
/-! ### papers -/
/-- a paper: tuples, numbers, texts, nothing; not too big -/
def okB : Nat → D → Bool
  | 0, _ => false
  | k + 1, .tup xs => decide (xs.length ≤ 1000) && xs.all (okB k)
  | _ + 1, .non => true
  | _ + 1, .int i => decide (i.natAbs.log2 < 1900)
  | _ + 1, .str z => true
  | _ + 1, _ => false
def szB : Nat → D → Nat
  | k + 1, .tup xs => 1 + (xs.map (szB k)).sum
  | _, _ => 1
def getB : D → List Nat → Option D
  | d, [] => some d
  | .tup xs, n :: ns => xs[n]?.bind fun d => getB d ns
  | _, _ :: _ => none
def pathD (ns : List Nat) : List D := ns.map fun (n : Nat) => D.int n
theorem okB_plain : ∀ (k : Nat) (d : D), okB k d = true → DL.plain d = true
  | 0, _, h => nomatch h
  | k + 1, .tup xs, h => by
    simp only [okB, Bool.and_eq_true, List.all_eq_true] at h
    exact plains_all.mpr fun d hd => okB_plain k d (h.2 d hd)
  | _ + 1, .non, _ => rfl
  | _ + 1, .int _, _ => rfl
  | _ + 1, .str _, _ => rfl
theorem okB_get : ∀ (ns : List Nat) (k : Nat) (d e : D), okB k d = true → getB d ns = some e → ∃ j, okB j e = true
  | [], k, d, e, h, g => by cases g; exact ⟨k, h⟩
  | n :: ns, k + 1, .tup xs, e, h, g => by
    simp only [okB, Bool.and_eq_true, List.all_eq_true] at h
    unfold getB at g
    cases hx : xs[n]? with
    | none => rw [hx] at g; cases g
    | some x =>
      rw [hx] at g
      exact okB_get ns k x e (h.2 x (List.mem_of_getElem? hx)) g
  | _ :: _, _, .non, _, _, g => nomatch g
  | _ :: _, _, .int _, _, _, g => nomatch g
  | _ :: _, _, .str _, _, _, g => nomatch g
  | _ :: _, _, .bl _, _, _, g => nomatch g
  | _ :: _, _, .lst _, _, _, g => nomatch g
  | _ :: _, _, .emp, _, _, g => nomatch g
  | _ :: _, _, .obj _, _, _, g => nomatch g
  | _ :: _, _, .scr _, _, _, g => nomatch g
  | _ :: _, 0, .tup _, _, h, _ => nomatch h
def szs (k : Nat) (xs : List D) : Nat := (xs.map (szB k)).sum
theorem szs_cons {k : Nat} {x : D} {xs : List D} : szs k (x :: xs) = szB k x + szs k xs := rfl
theorem sum_take {k : Nat} : ∀ (xs : List D) (i : Nat) (hi : i < xs.length), szs k (xs.take (i + 1)) = szs k (xs.take i) + szB k xs[i]
  | x :: xs, 0, _ => by simp [szs]
  | x :: xs, i + 1, hi => by
    have := sum_take (k := k) xs i (by simpa using hi)
    simp only [List.take_succ_cons, szs_cons, List.getElem_cons_succ, this]
    omega
theorem sum_take_le {k : Nat} : ∀ (xs : List D) (i : Nat), szs k (xs.take i) ≤ szs k xs
  | [], i => by simp
  | x :: xs, 0 => by simp [szs]
  | x :: xs, i + 1 => by
    have := sum_take_le (k := k) xs i
    simp only [List.take_succ_cons, szs_cons]
    omega
/-- a place -/
def okP (d : D) (k : Nat) (path : List D) (q : D) : Prop := ∃ ns e, q = .lst (path ++ pathD ns) ∧ getB d ns = some e ∧ ns.length < k
theorem cut_sub {α : Type} {xs : List α} {l h : Option Int} {x : α} (hx : x ∈ cut xs l h) : x ∈ xs := by
  unfold cut at hx
  exact List.mem_of_mem_drop (List.mem_of_mem_take hx)
theorem cut_len {α : Type} (xs : List α) (l h : Option Int) : (cut xs l h).length ≤ xs.length := by
  unfold cut
  rw [List.length_take, List.length_drop]
  omega
theorem cut_plain {xs : List D} {l h : Option Int} (p : plains xs = true) : plains (cut xs l h) = true := plains_all.mpr fun d hd => plains_all.mp p d (cut_sub hd)
@[simp] theorem cut_tail {α : Type} {x : α} {xs : List α} : cut (x :: xs) (some 1) none = xs := by
  unfold cut
  simp
theorem cut_pre {α : Type} {xs : List α} {n : Nat} (h : n ≤ xs.length) : cut xs none (some (n : Int)) = xs.take n := by
  unfold cut
  simp
theorem cut_post {α : Type} {xs : List α} {n : Nat} (h : n ≤ xs.length) : cut xs (some (n : Int)) none = xs.drop n := by
  unfold cut
  simp
  rw [Nat.min_eq_left h]
  exact List.take_of_length_le (by simp)
theorem plain_tup {xs : List D} : DL.plain (.tup xs) = plains xs := by unfold DL.plain; rfl
theorem plain_lst {xs : List D} : DL.plain (.lst xs) = plains xs := by unfold DL.plain; rfl
@[simp] theorem plains_nil : plains [] = true := rfl
@[simp] theorem plains_cons {d : D} {ds : List D} : plains (d :: ds) = (DL.plain d && plains ds) := rfl
@[simp] theorem plains_append {d ds : List D} : plains (d ++ ds) = (plains d && plains ds) := plains_app
mutual
theorem bd_plain (k : Nat) : ∀ (d : D), DL.plain d = true → D.bd k d = true
  | .tup xs, h => by unfold D.bd; exact bds_plain k xs h
  | .lst xs, h => by unfold D.bd; exact bds_plain k xs h
  | .non, _ => rfl
  | .bl _, _ => rfl
  | .int _, _ => rfl
  | .str _, _ => rfl
  | .emp, _ => rfl
  | .obj _, h => nomatch h
  | .scr _, h => nomatch h
theorem bds_plain (k : Nat) : ∀ (ds : List D), plains ds = true → bdL k ds = true
  | [], _ => rfl
  | d :: ds, h => by
    simp only [plains_cons, Bool.and_eq_true] at h
    unfold bdL
    rw [bd_plain k d h.1, bds_plain k ds h.2]; rfl
end
theorem bd_pool {q : PoolS} {k : Nat} : (poolL q).bd k = true := by
  refine bds_plain k _ ?_
  simp [plain_lst]
  refine ⟨plains_all.mpr fun d hd => ?_, by simp [DL.plain]⟩
  obtain ⟨i, _, rfl⟩ := List.mem_map.mp hd
  rfl
section
variable {M : MS} {Q : D → MS → Prop} {n : Nat} {xs ys : List D}
theorem w_app (h : M[n]? = some (.lst xs)) (hf : fits (xs.length + 1) = true) {v : D} : wp (appL (.obj n) [v]) M Q = Q .non (M.set n (.lst (xs ++ [v]))) := wp_of (by unfold appL; simp only [h, hf, if_true])
theorem w_addOL (h : M[n]? = some (.lst xs)) (hf : fits (xs.length + ys.length) = true) : wp (addD (.obj n) (.lst ys)) M Q = Q (.lst (xs ++ ys)) M := wp_of (by unfold addD catL; simp only [lstOf, h, hf, if_true])
end
def nbad (xs : List D) (i : Nat) : Nat := ((xs.take i).filter fun x => !isIntB x).length
theorem nbad_succ {xs : List D} {i : Nat} {x : D} (hx : xs[i]? = some x) : nbad xs (i + 1) = nbad xs i + if isIntB x = true then 0 else 1 := by
  unfold nbad
  rw [List.take_succ, hx]
  cases h : isIntB x <;> simp [h]
theorem Sm.sub {a : Nat} {i j : Int} (hi : Sm a i) (hj : Sm a j) : Sm (a + 1) (i - j) := by
  unfold Sm at *
  have : 2 ^ (a + 1) = 2 ^ a + 2 ^ a := by rw [Nat.pow_succ]; omega
  omega
theorem div_small {n : Nat} {i g : Int} (hd : g ∣ i) (hg : 0 < g) (h : Sm n i) : Sm n (i / g) := by
  obtain ⟨t, rfl⟩ := hd
  rw [Int.mul_ediv_cancel_left t (by omega)]
  unfold Sm at *
  rw [Int.natAbs_mul] at h
  have : t.natAbs ≤ g.natAbs * t.natAbs := Nat.le_mul_of_pos_left _ (by omega)
  omega
theorem div_ne {i g : Int} (hd : g ∣ i) (hg : 0 < g) (h : i ≠ 0) : i / g ≠ 0 := by
  obtain ⟨t, rfl⟩ := hd
  rw [Int.mul_ediv_cancel_left t (by omega)]
  intro z
  rw [z] at h
  simp at h
def Row (d : D) : Prop := ∃ a b, d = dF (a, b) ∧ b ≠ 0 ∧ Sm 64 a ∧ Sm 64 b
theorem mkF_row {o u : Int} (hu : u ≠ 0) (h1 : Sm 64 o) (h2 : Sm 64 u) : Row (dF (mkF o u)) := by
  have hg := gI_pos (o := o) hu
  unfold mkF
  split
  · exact ⟨_, _, rfl, div_ne (Int.dvd_neg.mpr (gI_dvd2 o u)) hg (by omega), div_small (Int.dvd_neg.mpr (gI_dvd1 o u)) hg h1.neg, div_small (Int.dvd_neg.mpr (gI_dvd2 o u)) hg h2.neg⟩
  · exact ⟨_, _, rfl, div_ne (gI_dvd2 o u) hg hu, div_small (gI_dvd1 o u) hg h1, div_small (gI_dvd2 o u) hg h2⟩
theorem mkF0 {u : Int} (hu : u ≠ 0) : mkF 0 u = (0, 1) := by
  have e : gI 0 u = (u.natAbs : Int) := by unfold gI; simp
  unfold mkF
  rw [e]
  split
  · rename_i h
    have : (u.natAbs : Int) = -u := by omega
    rw [this, Int.ediv_self (by omega)]; simp
  · rename_i h
    have : (u.natAbs : Int) = u := by omega
    rw [this, Int.ediv_self hu]; simp
theorem same6 (d : D) (M : MS) (h : okS 6 d = true) : F__law_same [d, d] M = some (.ok (.bl true), M) := same_ok 6 d M h
theorem row_plain {d : D} (h : Row d) : DL.plain d = true := by
  obtain ⟨a, b, rfl, _⟩ := h
  rfl
/-- a draw of the law's own pool -/
def St0 (M : MS) (c : Nat) : Prop := ∃ q, M = [MO.gone].set 0 (poolL q) ∧ PoolOk q c
theorem St0.draw {M : MS} {c : Nat} {many : Int} (h : St0 M c) (hc : c ≤ 1000) (h0 : 0 < many) (h1 : Sm 64 many) : wp (F__law_draw [.obj 0, .int many]) M fun r M' => ∃ v, r = .int v ∧ 0 ≤ v ∧ v < many ∧ St0 M' (c + 1) := by
  obtain ⟨q, rfl, ok⟩ := h
  refine wp_mono (draw_ok (by decide) ok (by omega) h0 h1) ?_
  rintro r M' ⟨v, q', rfl, h2, h3, rfl, ok'⟩
  exact ⟨v, rfl, h2, h3, q', rfl, ok'⟩
theorem St0.pick {M : MS} {c : Nat} {items : List D} (h : St0 M c) (hc : c ≤ 1000) (h0 : items ≠ []) (h1 : items.length ≤ 1000000) : wp (F__law_pick [.obj 0, .lst items]) M fun r M' => r ∈ items ∧ St0 M' (c + 1) := by
  obtain ⟨q, rfl, ok⟩ := h
  refine wp_mono (pick_ok (by decide) ok (by omega) h0 h1) ?_
  rintro r M' ⟨q', hr, rfl, ok'⟩
  exact ⟨hr, q', rfl, ok'⟩

/-- a fraction of the program as a rational number -/
def dQ (q : Rat) : D := .tup [.int q.num, .int (q.den : Int)]
def SmQ (n : Nat) (q : Rat) : Prop := Sm n q.num ∧ Sm n (q.den : Int)
theorem dQ_dF (q : Rat) : dQ q = dF (q.num, (q.den : Int)) := rfl
theorem den_ne (q : Rat) : (q.den : Int) ≠ 0 := Int.natCast_ne_zero.mpr q.den_nz
theorem mkF_q {o u : Int} (hu : u ≠ 0) : dF (mkF o u) = dQ (Rat.divInt o u) := by
  have e1 := Rat.num_divInt o u
  have e2 := Rat.den_divInt o u
  rw [if_neg hu] at e2
  have eg : ((u.gcd o : Nat) : Int) = gI o u := by unfold gI; rw [Int.gcd_comm]; rfl
  unfold dQ dF mkF
  rw [e1, e2, Int.natCast_ediv, eg]
  by_cases h : u < 0
  · rw [if_pos h, Int.sign_eq_neg_one_of_neg h]
    have : (u.natAbs : Int) = -u := by omega
    rw [this, Int.neg_one_mul]
  · rw [if_neg h, Int.sign_eq_one_of_pos (by omega)]
    have : (u.natAbs : Int) = u := by omega
    rw [this, Int.one_mul]
theorem divInt_sm {n : Nat} {o u : Int} (hu : u ≠ 0) (h1 : Sm n o) (h2 : Sm n u) : SmQ n (Rat.divInt o u) := by
  have hg := gI_pos (o := o) hu
  have e := mkF_q (o := o) hu
  have en : (mkF o u).1 = (Rat.divInt o u).num := by
    have := congrArg (fun d => match d with | .tup [.int a, _] => a | _ => 0) e
    exact this
  have ed : (mkF o u).2 = ((Rat.divInt o u).den : Int) := by
    have := congrArg (fun d => match d with | .tup [_, .int a] => a | _ => 0) e
    exact this
  unfold SmQ
  rw [← en, ← ed]
  unfold mkF
  split
  · exact ⟨div_small (Int.dvd_neg.mpr (gI_dvd1 o u)) hg h1.neg, div_small (Int.dvd_neg.mpr (gI_dvd2 o u)) hg h2.neg⟩
  · exact ⟨div_small (gI_dvd1 o u) hg h1, div_small (gI_dvd2 o u) hg h2⟩
theorem add_q (x y : Rat) : Rat.divInt (x.num * y.den + y.num * x.den) (x.den * y.den) = x + y := by
  rw [← Rat.divInt_add_divInt _ _ (den_ne x) (den_ne y), Rat.num_divInt_den, Rat.num_divInt_den]
theorem neg_q (y : Rat) : dF (-y.num, (y.den : Int)) = dQ (-y) := by
  unfold dQ
  rw [Rat.neg_num, Rat.neg_den]
  rfl
theorem mul_q (x y : Rat) : Rat.divInt (x.num * y.num) (x.den * y.den) = x * y := by
  rw [← Rat.divInt_mul_divInt, Rat.num_divInt_den, Rat.num_divInt_den]
theorem SmQ.mono {a b : Nat} {q : Rat} (h : SmQ a q) (l : a ≤ b) : SmQ b q := ⟨h.1.mono l, h.2.mono l⟩
theorem SmQ.neg {a : Nat} {q : Rat} (h : SmQ a q) : SmQ a (-q) := ⟨by rw [Rat.neg_num]; exact h.1.neg, by rw [Rat.neg_den]; exact h.2⟩
theorem SmQ.add {a b : Nat} {x y : Rat} (hx : SmQ a x) (hy : SmQ b y) : SmQ (a + b + 1) (x + y) := by
  rw [← add_q x y]
  exact divInt_sm (Int.mul_ne_zero (den_ne x) (den_ne y)) (Sm.add (hx.1.mul hy.2) ((hy.1.mul hx.2).mono (by omega))) ((hx.2.mul hy.2).mono (by omega))
theorem SmQ.mul {a b : Nat} {x y : Rat} (hx : SmQ a x) (hy : SmQ b y) : SmQ (a + b) (x * y) := by
  rw [← mul_q x y]
  exact divInt_sm (Int.mul_ne_zero (den_ne x) (den_ne y)) (hx.1.mul hy.1) (hx.2.mul hy.2)
theorem SmQ.sub {a b : Nat} {x y : Rat} (hx : SmQ a x) (hy : SmQ b y) : SmQ (a + b + 1) (x - y) := by
  rw [Rat.sub_eq_add_neg]
  exact hx.add hy.neg
theorem SmQ.int {n : Nat} {i : Int} (h : Sm n i) (hn : 0 < n) : SmQ n (i : Rat) := ⟨h, by
  show Sm n 1
  unfold Sm
  exact Nat.one_lt_two_pow (by omega)⟩
theorem dQ_int (i : Int) : dQ (i : Rat) = .tup [.int i, .int 1] := rfl
section
variable {x y : Rat} {M : MS}
theorem addedQ (hx : SmQ 4000 x) (hy : SmQ 4000 y) : F_added [dQ x, dQ y] M = some (.ok (dQ (x + y)), M) := by
  have h := added_ok (den_ne x) (den_ne y) hx.1 hx.2 hy.1 hy.2 M
  rw [mkF_q (Int.mul_ne_zero (den_ne x) (den_ne y)), add_q] at h
  exact h
theorem timesQ (hx : SmQ 4000 x) (hy : SmQ 4000 y) : F_times [dQ x, dQ y] M = some (.ok (dQ (x * y)), M) := by
  have h := times_ok (den_ne x) (den_ne y) hx.1 hx.2 hy.1 hy.2 (M := M)
  rw [mkF_q (Int.mul_ne_zero (den_ne x) (den_ne y)), mul_q] at h
  exact h
theorem lawFractionQ {o u : Int} (hu : u ≠ 0) (hs : Sm 9000 u) : F__law_fraction [.int o, .int u] M = some (.ok (dQ (Rat.divInt o u)), M) := by
  rw [← mkF_q hu]
  exact law_fraction_ok hu hs M
end

def dotQ : List Int → List Rat → Rat
  | f :: fs, x :: xs => (f : Rat) * x + dotQ fs xs
  | _, _ => 0
theorem dotQ_drop {fs : List Int} {xs : List Rat} {i : Nat} {f : Int} {x : Rat} (h1 : fs[i]? = some f) (h2 : xs[i]? = some x) : dotQ (fs.drop i) (xs.drop i) = (f : Rat) * x + dotQ (fs.drop (i + 1)) (xs.drop (i + 1)) := by
  obtain ⟨l1, e1⟩ := List.getElem?_eq_some_iff.mp h1
  obtain ⟨l2, e2⟩ := List.getElem?_eq_some_iff.mp h2
  rw [List.drop_eq_getElem_cons l1, List.drop_eq_getElem_cons l2, e1, e2]
  rfl
theorem dotQ_end {fs : List Int} {xs : List Rat} {i : Nat} (h : fs.length ≤ i ∨ xs.length ≤ i) : dotQ (fs.drop i) (xs.drop i) = 0 := by
  rcases h with h | h
  · rw [List.drop_of_length_le h]; rfl
  · rw [List.drop_of_length_le h]; cases fs.drop i <;> rfl
theorem line_at_ok {c : Int} {fs : List Int} {xs : List Rat} {M : MS} (hc : Sm 64 c) (hf : ∀ f ∈ fs, Sm 64 f) (hx : ∀ x ∈ xs, SmQ 64 x) (hl : fs.length ≤ 10) :
    wp (F_line_at [.tup [.int c, .tup (fs.map D.int)], .lst (xs.map dQ)]) M fun r M' => M' = M ∧ r = dQ (c + dotQ fs xs) := by
  unfold F_line_at m_line_at
  simp -dsimp
  refine wp_forI (fun i ρ M' => M' = M ∧ i ≤ 10 ∧ ∃ acc z1 z2, ρ = [some (.tup [.int c, .tup (fs.map D.int)]), some (.lst (xs.map dQ)), some (dQ acc), z1, z2] ∧ acc + dotQ (fs.drop i) (xs.drop i) = c + dotQ fs xs ∧ SmQ (130 * i + 64) acc) ?_ ?_ ⟨rfl, Nat.zero_le _, c, _, _, rfl, rfl, SmQ.int hc (by decide)⟩
  · rintro ρ M' ⟨rfl, _, acc, z1, z2, rfl, he, _⟩
    have hz : dotQ (fs.drop (zipL (fs.map D.int) (xs.map dQ)).length) (xs.drop (zipL (fs.map D.int) (xs.map dQ)).length) = 0 := dotQ_end (by simp; omega)
    rw [hz, Rat.add_zero] at he
    simp -dsimp [he]
  · rintro i x ρ M' hxi ⟨rfl, _, acc, z1, z2, rfl, he, hs⟩
    obtain ⟨a, b, ha, hb, rfl⟩ := zipL_get hxi
    rw [List.getElem?_map] at ha hb
    obtain ⟨f, hf1, rfl⟩ := Option.map_eq_some_iff.mp ha
    obtain ⟨q, hq1, rfl⟩ := Option.map_eq_some_iff.mp hb
    have hi : i < fs.length := (List.getElem?_eq_some_iff.mp hf1).1
    have sf : SmQ 64 (f : Rat) := SmQ.int (hf f (List.mem_of_getElem? hf1)) (by decide)
    have sq := hx q (List.mem_of_getElem? hq1)
    have st : SmQ (64 + 64) ((f : Rat) * q) := sf.mul sq
    have w1 := timesQ (M := M') (sf.mono (b := 4000) (by decide)) (sq.mono (b := 4000) (by decide))
    rw [dQ_int] at w1
    have w2 := addedQ (M := M') (hs.mono (b := 4000) (by omega)) (st.mono (b := 4000) (by decide))
    simp -dsimp [wp_of w1, wp_of w2]
    refine ⟨by omega, _, rfl, ?_, (hs.add st).mono (by omega)⟩
    rw [dotQ_drop hf1 hq1] at he
    rw [← he, Rat.add_assoc]

end Law
namespace Law
open PySem PySem.Spec PyProof.Rows L2 DL
theorem mix_q (a q : Rat) (f : Int) : Rat.divInt (a.num * q.den + f * q.num * a.den) (a.den * q.den) = a + f * q := by
  rw [← Rat.divInt_add_divInt _ _ (den_ne a) (den_ne q), Rat.num_divInt_den]
  have : Rat.divInt (f * q.num) q.den = (f : Rat) * q := by
    have e := Rat.divInt_mul_divInt f q.num (d₁ := 1) (d₂ := (q.den : Int))
    rw [Rat.num_divInt_den, Int.one_mul] at e
    rw [← e, show Rat.divInt f 1 = (f : Rat) from Rat.num_divInt_den (f : Rat)]
  rw [this]
theorem okS_dQ (x : Rat) : okS 5 (dQ x) = true := by simp [dQ, okS]
theorem law_true (ns : List Int) (hl : ns.length ≤ 63) : ∃ M', F_law [.scr ns] [] = some (.ok (.bl true), M') := by
  suffices h : wp (F_law [.scr ns]) [] fun r _ => r = .bl true by
    obtain ⟨r, M', e, rfl⟩ := h
    exact ⟨M', e⟩
  unfold F_law m_law
  have d2 : divOk 2 = true := by decide
  simp -dsimp
  refine wp_mono (pool_ok (by omega) _) ?_
  rintro r M ⟨q, rfl, rfl, ok⟩
  have S0 : St0 ([] ++ [poolL q]) 0 := ⟨q, rfl, ok⟩
  simp -dsimp
  refine wp_mono (S0.draw (by decide) (by decide) (by decide)) ?_
  rintro r M1 ⟨many, rfl, m0, m1, S1⟩
  obtain ⟨n, rfl⟩ := Int.eq_ofNat_of_zero_le m0
  have hn : n < 5 := by omega
  simp -dsimp
  refine wp_mono (S1.pick (by decide) (by simp) (by simp)) ?_
  rintro r M2 ⟨hr, S2⟩
  obtain ⟨g, rfl, hg0, hg1⟩ : ∃ g : Int, r = .int g ∧ 5 ≤ g ∧ g ≤ 10000000000 := by
    simp at hr
    rcases hr with rfl | rfl
    · exact ⟨_, rfl, by decide, by decide⟩
    · exact ⟨_, rfl, by decide, by decide⟩
  have sg : Sm 64 g := Sm.of_lt (by omega) (by omega)
  simp -dsimp
  refine wp_mono (S2.draw (by decide) (by omega) sg) ?_
  rintro r M3 ⟨v, rfl, v0, v1, S3⟩
  have sm := small62_nat (n := n) (by omega)
  have fn := fits_of (n := n) (by omega)
  simp -dsimp [d2, sm, fn]
  have sc : Sm 64 (v - g / 2) := by unfold Sm; omega
  generalize v - g / 2 = c at sc
  refine wp_comI (fun i acc M' => St0 M' (3 + i) ∧ ∃ fs : List Int, acc = fs.map D.int ∧ fs.length = i ∧ ∀ f ∈ fs, Sm 64 f) ?_ ⟨S3, [], rfl, rfl, by simp⟩ ?_
  · rintro i x acc M4 hx ⟨S4, fs, rfl, hl, hf⟩
    obtain ⟨hi, rfl⟩ := rng_get hx
    simp -dsimp
    refine wp_mono (S4.draw (by omega) (by omega) sg) ?_
    rintro r M5 ⟨u, rfl, u0, u1, S5⟩
    simp -dsimp [d2]
    refine ⟨S5, fs ++ [u - g / 2], by simp, by simp [hl], ?_⟩
    intro f hm
    rcases List.mem_append.mp hm with hm | hm
    · exact hf f hm
    · rw [List.mem_singleton.mp hm]; unfold Sm; omega
  rintro ys M4 ⟨S4, fs, rfl, hfl, hf⟩
  simp at hfl S4
  simp -dsimp [sm, fn]
  refine wp_comI (fun i acc M' => St0 M' (3 + n + 2 * i) ∧ ∃ xs : List Rat, acc = xs.map dQ ∧ xs.length = i ∧ ∀ x ∈ xs, SmQ 64 x) ?_ ⟨S4, [], rfl, rfl, by simp⟩ ?_
  · rintro i x acc M4 hx ⟨S4, xs, rfl, hl, hf⟩
    obtain ⟨hi, rfl⟩ := rng_get hx
    simp -dsimp
    refine wp_mono (S4.draw (by omega) (by omega) sg) ?_
    rintro r M5 ⟨u, rfl, u0, u1, S5⟩
    simp -dsimp
    refine wp_mono (S5.draw (by omega) (by omega) sg) ?_
    rintro r M6 ⟨t, rfl, t0, t1, S6⟩
    have ht : 1 + t ≠ 0 := by omega
    have st : Sm 64 (1 + t) := by unfold Sm; omega
    have su : Sm 64 u := by unfold Sm; omega
    simp -dsimp [wp_of (lawFractionQ (o := u) (M := M6) ht (st.mono (by decide)))]
    refine ⟨S6, xs ++ [Rat.divInt u (1 + t)], by simp, by simp [hl], ?_⟩
    intro f hm
    rcases List.mem_append.mp hm with hm | hm
    · exact hf f hm
    · rw [List.mem_singleton.mp hm]; exact divInt_sm ht su st
  rintro ys M5 ⟨S5, xs, rfl, hxl, hx⟩
  simp -dsimp
  refine wp_forI (fun i ρ M' => M' = M5 ∧ ∃ acc z1 z2, ρ = [some (.scr ns), some (.obj 0), some (.int n), some (.int g), some (.tup [.int c, .tup (fs.map D.int)]), some (.lst (xs.map dQ)), some (dQ acc), z1, z2, none] ∧ acc + dotQ (fs.drop i) (xs.drop i) = c + dotQ fs xs ∧ SmQ (130 * i + 64) acc) ?_ ?_ ⟨rfl, c, _, _, rfl, rfl, SmQ.int sc (by decide)⟩
  · rintro ρ M' ⟨rfl, acc, z1, z2, rfl, he, _⟩
    have hz : dotQ (fs.drop (zipL (fs.map D.int) (xs.map dQ)).length) (xs.drop (zipL (fs.map D.int) (xs.map dQ)).length) = 0 := dotQ_end (by simp; omega)
    rw [hz, Rat.add_zero] at he
    subst he
    simp -dsimp
    refine wp_mono (line_at_ok sc hf hx (by omega)) ?_
    rintro r M6 ⟨rfl, rfl⟩
    simp -dsimp
    refine wp_mono (line_at_ok (fs := []) (xs := []) sc (by simp) (by simp) (by simp)) ?_
    rintro r M7 ⟨rfl, rfl⟩
    have e : (c : Rat) + dotQ [] [] = c := Rat.add_zero _
    rw [e, dQ_int]
    simp -dsimp
    refine wp_call (same6 (.lst [dQ (c + dotQ fs xs), .tup [.int c, .int 1]]) M7 ?_) ?_
    · have := okS_dQ (c + dotQ fs xs)
      simp [okS] at this ⊢
      exact this
    · simp -dsimp
  · rintro i x ρ M' hxi ⟨rfl, acc, z1, z2, rfl, he, hs⟩
    obtain ⟨a, b, ha, hb, rfl⟩ := zipL_get hxi
    rw [List.getElem?_map] at ha hb
    obtain ⟨f, hf1, rfl⟩ := Option.map_eq_some_iff.mp ha
    obtain ⟨q, hq1, rfl⟩ := Option.map_eq_some_iff.mp hb
    have hi : i < fs.length := (List.getElem?_eq_some_iff.mp hf1).1
    have sf := hf f (List.mem_of_getElem? hf1)
    have sq := hx q (List.mem_of_getElem? hq1)
    have hd := Int.mul_ne_zero (den_ne acc) (den_ne q)
    have w := lawFractionQ (o := acc.num * q.den + f * q.num * acc.den) (M := M') hd ((hs.2.mul sq.2).mono (by omega))
    rw [mix_q] at w
    have m1 : mulOk acc.num q.den = true := mulOk_of hs.1 sq.2 (by omega) (by decide) (by omega)
    have m2 : mulOk f q.num = true := mulOk_of sf sq.1 (by omega) (by decide) (by omega)
    have m3 : mulOk (f * q.num) acc.den = true := mulOk_of (sf.mul sq.1) hs.2 (by omega) (by omega) (by omega)
    have m4 : mulOk acc.den q.den = true := mulOk_of hs.2 sq.2 (by omega) (by decide) (by omega)
    have eq1 : dQ acc = .tup [.int acc.num, .int acc.den] := rfl
    have eq2 : dQ q = .tup [.int q.num, .int q.den] := rfl
    simp -dsimp [eq1, eq2, m1, m2, m3, m4, wp_of w]
    refine ⟨_, rfl, ?_, (hs.add ((SmQ.int sf (by decide)).mul sq)).mono (by omega)⟩
    rw [dotQ_drop hf1 hq1] at he
    rw [← he, Rat.add_assoc]
end Law

end
namespace Law
section
open PySem PySem.Spec PyProof.Rows L2 DL
variable {P : Program} {w : World} {K : PySem.W.Frag} {mg : Str → Option Value} {base : Heap}
def cl0 : Str → Addr := fun _ => 0
theorem sp_law {H : Hp} {a : Addr} {ns : List Int} (hl : ns.length ≤ 63) (hS : SqL K H a (ns.map V.int)) : spD K cl0 1 F_law [.ref a] H (fun v _ => v = .bl true) fun _ _ _ => False := by
  obtain ⟨M', e⟩ := law_true ns hl
  refine ⟨rfl, [.scr ns], [], ⟨[], H, fun _ => none⟩, ⟨_, _, rfl, ⟨a, rfl, hS⟩, rfl⟩, ?_, ?_⟩
  · exact ⟨fun _ _ z => z, rfl, fun n mo e => by simp at e, List.nodup_nil, fun _ _ z => nomatch z⟩
  · rw [e]
    intro W' H' v _ rv _
    exact rv
theorem txt_of {h : Heap} (X : K.In h) (G : h.Ns mainGlobals mg) (c : He.SaysX fa fn [] [] ex w h K) : Txt K mg where
  d := c.t.d
  g := fun x e => He.glo_ok X G e
  f := fun x e => He.free_ok X G e
theorem law_facts {h : Heap} {f : Addr} (X : K.In h) (G : h.Ns mainGlobals mg) (hfa : mg ("law" : Str) = some (.ref f)) (c : He.SaysX fa fn [] [] ex w h K) :
    ∃ fd : FuncData, (∀ (s : Shared) (v : Value), BindsTo s fd ⟨[v], []⟩ [("script", v)]) ∧ ∀ base : Heap, K.In base → base.Ns mainGlobals mg → FnOk P w K mg base (L2.CX P w) 8 f fd ["script"] (spD K cl0 1 F_law) := by
  have T := txt_of X G c
  obtain ⟨fd, Fd⟩ := T.d.def_ 12 (d := d_law) rfl
  have b := FunD.bindsA (ps := ["script"]) Fd fun _ _ _ _ _ _ us hl => match us, hl with | [_], _ => rfl
  have e := hfa.symm.trans (T.g _ (T.d.fact 12 (f := .glo "law") rfl))
  cases e
  exact ⟨fd, fun s v => b s [v] rfl, fun base _ _ => GF_law T Fd⟩
theorem law_walk {l : PySem.W.OpenLaw} {q : Program} {loose : List Str} {XP : (Str → Option Value) → Heap → Prop} {d : DefRec}
    (most : l.most = some 63) (dfl : d.params.defaults = []) (nm : d.name = ("law" : Str)) :
    PySem.W.WalkO q loose XP (hk).says l.row.toRowW d [] (fun f vs => PySem.call f vs) := by
  refine Att.attach_call most dfl ?_
  intro w _ s mg _ f _ _ _ _ a _ ns T0 Y _ _ _ hm ho hi hn hq
  obtain ⟨K, KX, c⟩ := Y
  rw [nm] at hm
  obtain ⟨fd, hb, hF⟩ := law_facts (P := l.prog) (w := w) KX T0.T.g hm c
  refine law_call KX T0.T.g T0.T.b T0.T.builtins T0.T.nolimit hq ho hi (Nat.le_trans hn (by decide)) (k := 8) ⟨rfl, by decide, by decide⟩ hF hb ?_ ?_
  · exact fun H _ hS => sp_law hn hS
  · intro H e s' z
    obtain ⟨_, _, _, _, _, _, _, _, _, _, _, _, z⟩ := z
    exact z
end
end Law
open PySem PySem.W PySem.Calls PyProof.Rows
theorem PySem.Challenge.cw_degreewise_k04_lines_at_values_holds : PySem.Challenge.rw_degreewise_k04_lines_at_values.Holds := by
  w_on; o_law
  refine HandSHeadRun.head_any (r := OpenLaw.row PySem.Challenge.rw_degreewise_k04_lines_at_values) (q := view (OpenLaw.row PySem.Challenge.rw_degreewise_k04_lines_at_values).prog [15]) (H := Law.hk) (ob := Law.ob) (M := 3000) (loose := Law.names) (d := HandSHeadRun.topDef (OpenLaw.row PySem.Challenge.rw_degreewise_k04_lines_at_values).prog 15) (kwd := []) Law.ob_eq
    (by kernel_rfl) (fun s => by kernel_rfl) Law.run (by kernel_rfl) (by kernel_rfl) (by kernel_rfl) (by rfl) (by first | assumption | decide +kernel) (by decide +kernel) ⟨rfl, rfl, rfl, rfl, rfl, by decide +kernel⟩ ?hw ?hc
  case hw => w_witness2
  case hc => exact Law.law_walk rfl (by kernel_rfl) (by kernel_rfl)

