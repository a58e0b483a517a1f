import PyProof.Rows.All
import Wide.All
import OpenK.AllK
import Wide.FinOn
import HandS.ForMost
import HandS.Exc
import HandS.TryOnly
import HandS.ExcOwn
import HandS.WordsExc
import HandS.CallSlots
import HandS.Wide
import HandS.WideBits
import HandS.TupAny
import HandS.Walk
import HandS.Deep
import HandS.IsInst
import HandS.SortInts
import HandS.Conv
import HandS.ListItems
import HandS.Style
import HandS.Finally
import HandS.Zip
import HandS.SetFor
import HandS.Strs
import HandS.EndBits
import HandS.Defaults
import PyProof.P3Eq
import PySem.Challenge.RW_wirehall_k84_bills
set_option Elab.async false
set_option linter.all false
set_option maxRecDepth 100000
set_option maxHeartbeats 4000000
set_option autoImplicit false
/-! The mirror layer: data as trees, a store of what changes, and the relation of both to the abstract heap of HandS. -/
namespace Mi
open PySem L2

inductive D where
  | non | bl (b : Bool) | int (i : Int) | str (x : Str)
  | tup (xs : List D) | lst (xs : List D)
  /-- a tuple of the written part -/
  | ktup (xs : List D)
  | dct (kvs : List (Key × D))
  | obj (c : Nat) (fs : List (Nat × D))
  | ref (i : Nat)
  deriving Inhabited

inductive SO where
  | lst (xs : List D)
  | dct (kvs : List (Key × D))
  | dcT (kvs : List (List Key × D))
  | ins (c : Nat) (fs : List (Nat × D))
  | dead
abbrev Sto := List SO
structure Exn where
  c : Nat
  fs : List (Nat × D)
inductive Rs (α : Type) where
  | ok (a : α) (S : Sto)
  | exc (x : Exn) (S : Sto)
  | bad
abbrev En := List (Option D)
abbrev EM := En → Sto → Rs D
abbrev TM := En → Sto → Rs Bool
abbrev AM := En → Sto → Rs (List D)
/-- a def's mirror -/
abbrev FM := List D → Sto → Rs D
def Rs.bind {α β : Type} (r : Rs α) (k : α → Sto → Rs β) : Rs β := match r with
  | .ok a S => k a S
  | .exc x S => .exc x S
  | .bad => .bad

/-! ### worlds -/
structure Wd where
  F : Addr → Prop
  /-- pinned for a while: what a loop goes over -/
  P : Addr → Prop
  ρ : List Addr
  H : Hp

/-- where the classes stand; the fields' names by number -/
structure Tb where
  c : Nat → Addr
  f : List Str
  nd : f.Nodup
/-- the world goes on -/
structure XT (_K : PySem.W.Frag) (w w' : Wd) : Prop where
  pre : w.ρ <+: w'.ρ
  F : ∀ a, w.F a → w'.F a
  keep : ∀ a o, w.H a = some o → a ∉ w.ρ → w'.H a = some o
  keepF : ∀ a o, w.F a → w.H a = some o → w'.H a = some o
  keepT : ∀ a vs, w.H a = some (.tup vs) → w'.H a = some (.tup vs)
  newρ : ∀ a, a ∈ w'.ρ → a ∉ w.ρ → w.H a = none
  newF : ∀ a, w'.F a → ¬ w.F a → w.H a = none ∨ a ∈ w.ρ
  P : w'.P = w.P
  keepP : ∀ a o, w.P a → w.H a = some o → w'.H a = some o
/-- a list of the written part -/
def KLs (K : PySem.W.Frag) (a : Addr) (xs : List V) : Prop :=
  ∃ (o : Obj) (its : Array Value) (n : Nat), K.lookup a = some o ∧ o.cls = .type "list" ∧ o.dict = none ∧ o.data = .seq its n ∧ its.size ≤ sizeLine ∧ Vals xs its.toList

def KTp (K : PySem.W.Frag) (a : Addr) (xs : List V) : Prop :=
  ∃ (o : Obj) (its : Array Value) (n : Nat), K.lookup a = some o ∧ o.cls = .type "tuple" ∧ o.data = .seq its n ∧ its.size ≤ sizeLine ∧ Vals xs its.toList
/-- an instance of a class that is plain, its fields no class's -/
def InsOk (K : PySem.W.Frag) (C : Addr) (fs : List (Str × V)) : Prop := Cls K C ∧ ∀ p ∈ fs, NoAttr K C p.1
section
variable (K : PySem.W.Frag) (ct : Tb)
mutual
inductive RV : Wd → V → D → Prop
  | non {w} : RV w .non .non
  | bl {w b} : RV w (.bl b) (.bl b)
  | int {w i} : RV w (.int i) (.int i)
  | str {w x} : RV w (.str x) (.str x)
  | tup {w a vs ds} : w.H a = some (.tup vs) → RVs w vs ds → RV w (.ref a) (.tup ds)
  | ktup {w a vs ds} : KTp K a vs → RVs w vs ds → RV w (.ref a) (.ktup ds)
  | lst {w a vs ds} : (w.F a ∧ Rd w.H a (.lst vs)) ∨ KLs K a vs → RVs w vs ds → RV w (.ref a) (.lst ds)
  | dct {w : Wd} {a} {kvs : List (Key × V)} {kds : List (Key × D)} : w.F a → w.H a = some (.dK kvs) → kvs.map (·.1) = kds.map (·.1) → RVs w (kvs.map (·.2)) (kds.map (·.2)) → RV w (.ref a) (.dct kds)
  | obj {w : Wd} {a c dx} {fs : List (Str × V)} {fds : List (Nat × D)} : w.F a → w.H a = some (.ins (ct.c c) dx fs) → InsOk K (ct.c c) fs → fs.map (fun p => some p.1) = fds.map (fun p => ct.f[p.1]?) → RVs w (fs.map (·.2)) (fds.map (·.2)) → RV w (.ref a) (.obj c fds)
  | ref {w : Wd} {a i} : w.ρ[i]? = some a → RV w (.ref a) (.ref i)
inductive RVs : Wd → List V → List D → Prop
  | nil {w} : RVs w [] []
  | cons {w v d vs ds} : RV w v d → RVs w vs ds → RVs w (v :: vs) (d :: ds)
end
/-- pairs of a key of any kind and a value -/
def RKs {κ : Type} (w : Wd) (kvs : List (κ × V)) (kds : List (κ × D)) : Prop := kvs.map (·.1) = kds.map (·.1) ∧ RVs K ct w (kvs.map (·.2)) (kds.map (·.2))
/-- fields -/
def RFs (w : Wd) (kvs : List (Str × V)) (kds : List (Nat × D)) : Prop := kvs.map (fun p => some p.1) = kds.map (fun p => ct.f[p.1]?) ∧ RVs K ct w (kvs.map (·.2)) (kds.map (·.2))
/-- what stands at a, for an object of the store -/
def SOk (w : Wd) (a : Addr) : SO → Prop
  | .lst ds => ∃ vs, w.H a = some (.lst vs) ∧ RVs K ct w vs ds
  | .dct kds => ∃ kvs, w.H a = some (.dK kvs) ∧ RKs K ct w kvs kds
  | .dcT kds => ∃ kvs, w.H a = some (.dT kvs) ∧ RKs K ct w kvs kds
  | .ins c fds => ∃ dx fs, w.H a = some (.ins (ct.c c) dx fs) ∧ InsOk K (ct.c c) fs ∧ RFs K ct w fs fds
  | .dead => True
structure SR (w : Wd) (S : Sto) : Prop where
  len : w.ρ.length = S.length
  inj : w.ρ.Nodup
  dis : ∀ (i : Nat) a o, w.ρ[i]? = some a → S[i]? = some o → o ≠ SO.dead → ¬ w.F a ∧ ¬ w.P a
  ob : ∀ (i : Nat) a o, w.ρ[i]? = some a → S[i]? = some o → SOk K ct w a o
  fin : ∀ a, w.F a → ∃ o, w.H a = some o
  fρ : ∀ a, a ∈ w.ρ → ∃ o, w.H a = some o
  fP : ∀ a, w.P a → ∃ o, w.H a = some o
end

section
variable {K : PySem.W.Frag} {ct : Tb} {w w' w'' : Wd}
theorem XT.refl (w : Wd) : XT K w w := ⟨List.prefix_rfl, fun _ h => h, fun _ _ h _ => h, fun _ _ _ h => h, fun _ _ h => h, fun _ h n => absurd h n, fun _ h n => absurd h n, rfl, fun _ _ _ h => h⟩
theorem XT.trans (a : XT K w w') (b : XT K w' w'') : XT K w w'' := by
  have nin : ∀ x o, w.H x = some o → x ∉ w.ρ → x ∉ w'.ρ := fun x o h n hm => by
    have := a.newρ x hm n
    rw [h] at this; cases this
  have none_back : ∀ x, w'.H x = none → x ∉ w.ρ → w.H x = none := fun x h n => by
    cases q : w.H x with
    | none => rfl
    | some o => have := a.keep x o q n; rw [h] at this; cases this
  refine ⟨a.pre.trans b.pre, fun x h => b.F x (a.F x h), fun x o h n => b.keep x o (a.keep x o h n) (nin x o h n), fun x o f h => b.keepF x o (a.F x f) (a.keepF x o f h), fun x vs h => b.keepT x vs (a.keepT x vs h), fun x hm n => ?_, fun x f n => ?_, b.P.trans a.P, fun x o f h => b.keepP x o (by rw [a.P]; exact f) (a.keepP x o f h)⟩
  · by_cases h : x ∈ w'.ρ
    · exact a.newρ x h n
    · exact none_back x (b.newρ x hm h) n
  · by_cases f' : w'.F x
    · exact a.newF x f' n
    · rcases b.newF x f f' with h | h
      · by_cases hx : x ∈ w.ρ
        · exact .inr hx
        · exact .inl (none_back x h hx)
      · by_cases hx : x ∈ w.ρ
        · exact .inr hx
        · exact .inl (a.newρ x h hx)
theorem XT.get (e : XT K w w') {i : Nat} {a : Addr} (h : w.ρ[i]? = some a) : w'.ρ[i]? = some a := by
  obtain ⟨t, ht⟩ := e.pre
  rw [← ht, List.getElem?_append_left (List.getElem?_eq_some_iff.mp h).1]
  exact h
theorem XT.rdF (e : XT K w w') {a : Addr} {u : HO} (f : w.F a) (h : Rd w.H a u) : Rd w'.H a u := by
  rcases h with h | ⟨o, h⟩
  · exact .inl (e.keepF a _ f h)
  · exact .inr ⟨o, e.keepF a _ f h⟩
/-- what a world must keep for things to stay -/
structure Kp (K : PySem.W.Frag) (w w' : Wd) : Prop where
  T : ∀ a vs, w.H a = some (.tup vs) → w'.H a = some (.tup vs)
  F : ∀ a u, w.F a → w.H a = some u → w'.F a ∧ w'.H a = some u
  R : ∀ (i : Nat) a, w.ρ[i]? = some a → w'.ρ[i]? = some a
mutual
theorem RV.imp (k : Kp K w w') : ∀ {v d}, RV K ct w v d → RV K ct w' v d
  | _, _, .non => .non
  | _, _, .bl => .bl
  | _, _, .int => .int
  | _, _, .str => .str
  | _, _, .tup h r => .tup (k.T _ _ h) (RVs.imp k r)
  | _, _, .ktup h r => .ktup h (RVs.imp k r)
  | _, _, .lst h r => .lst (h.imp (fun h => h.2.elim (fun q => ⟨(k.F _ _ h.1 q).1, .inl (k.F _ _ h.1 q).2⟩) (fun ⟨o, q⟩ => ⟨(k.F _ _ h.1 q).1, .inr ⟨o, (k.F _ _ h.1 q).2⟩⟩)) id) (RVs.imp k r)
  | _, _, .dct f h q r => .dct (k.F _ _ f h).1 (k.F _ _ f h).2 q (RVs.imp k r)
  | _, _, .obj f h i q r => .obj (k.F _ _ f h).1 (k.F _ _ f h).2 i q (RVs.imp k r)
  | _, _, .ref h => .ref (k.R _ _ h)
theorem RVs.imp (k : Kp K w w') : ∀ {vs ds}, RVs K ct w vs ds → RVs K ct w' vs ds
  | _, _, .nil => .nil
  | _, _, .cons h r => .cons (RV.imp k h) (RVs.imp k r)
end
theorem XT.kp (e : XT K w w') : Kp K w w' := ⟨e.keepT, fun a u f h => ⟨e.F a f, e.keepF a u f h⟩, fun _ _ h => e.get h⟩
theorem RV.mono (e : XT K w w') {v d} (h : RV K ct w v d) : RV K ct w' v d := h.imp e.kp
theorem RVs.mono (e : XT K w w') {vs ds} (h : RVs K ct w vs ds) : RVs K ct w' vs ds := h.imp e.kp
theorem RKs.mono {κ : Type} (e : XT K w w') {kvs : List (κ × V)} {kds : List (κ × D)} (h : RKs K ct w kvs kds) : RKs K ct w' kvs kds := ⟨h.1, h.2.mono e⟩
theorem RFs.mono (e : XT K w w') {kvs : List (Str × V)} {kds : List (Nat × D)} (h : RFs K ct w kvs kds) : RFs K ct w' kvs kds := ⟨h.1, h.2.mono e⟩
theorem RVs.length : ∀ {vs ds}, RVs K ct w vs ds → vs.length = ds.length
  | _, _, .nil => rfl
  | _, _, .cons _ r => by simp [RVs.length r]
theorem RVs.get : ∀ {vs ds} {i : Nat} {d : D}, RVs K ct w vs ds → ds[i]? = some d → ∃ v, vs[i]? = some v ∧ RV K ct w v d
  | _, _, _, _, .nil, h => by simp at h
  | _, _, 0, _, .cons h _, e => by simp at e; subst e; exact ⟨_, rfl, h⟩
  | _, _, i + 1, d, .cons _ r, e => by
    obtain ⟨v, h1, h2⟩ := RVs.get (i := i) (d := d) r (by simpa using e)
    exact ⟨v, by simpa using h1, h2⟩
theorem RVs.get' : ∀ {vs ds} {i : Nat} {v : V}, RVs K ct w vs ds → vs[i]? = some v → ∃ d, ds[i]? = some d ∧ RV K ct w v d
  | _, _, _, _, .nil, h => by simp at h
  | _, _, 0, _, .cons h _, e => by simp at e; subst e; exact ⟨_, rfl, h⟩
  | _, _, i + 1, d, .cons _ r, e => by
    obtain ⟨v, h1, h2⟩ := RVs.get' (i := i) (v := d) r (by simpa using e)
    exact ⟨v, by simpa using h1, h2⟩
theorem RVs.append : ∀ {vs ds us es}, RVs K ct w vs ds → RVs K ct w us es → RVs K ct w (vs ++ us) (ds ++ es)
  | _, _, _, _, .nil, s => s
  | _, _, _, _, .cons h r, s => .cons h (RVs.append r s)
theorem RVs.take : ∀ {vs ds} (n : Nat), RVs K ct w vs ds → RVs K ct w (vs.take n) (ds.take n)
  | _, _, 0, _ => .nil
  | _, _, _ + 1, .nil => .nil
  | _, _, n + 1, .cons h r => .cons h (RVs.take n r)
theorem RVs.drop : ∀ {vs ds} (n : Nat), RVs K ct w vs ds → RVs K ct w (vs.drop n) (ds.drop n)
  | _, _, 0, r => r
  | _, _, _ + 1, .nil => .nil
  | _, _, n + 1, .cons _ r => RVs.drop n r
theorem RVs.set {v : V} {d : D} (h : RV K ct w v d) : ∀ {vs ds} (n : Nat), RVs K ct w vs ds → RVs K ct w (vs.set n v) (ds.set n d)
  | _, _, _, .nil => .nil
  | _, _, 0, .cons _ r => .cons h r
  | _, _, n + 1, .cons q r => .cons q (RVs.set h n r)
theorem RVs.reverse : ∀ {vs ds}, RVs K ct w vs ds → RVs K ct w vs.reverse ds.reverse
  | _, _, .nil => .nil
  | _, _, .cons h r => by rw [List.reverse_cons, List.reverse_cons]; exact (RVs.reverse r).append (.cons h .nil)
theorem RVs.ints : ∀ ns : List Int, RVs K ct w (ns.map V.int) (ns.map D.int)
  | [] => .nil
  | _ :: ns => .cons .int (RVs.ints ns)
theorem RVs.strs : ∀ ns : List Str, RVs K ct w (ns.map V.str) (ns.map D.str)
  | [] => .nil
  | _ :: ns => .cons .str (RVs.strs ns)

/-- names and values of a frame -/
def RE (K : PySem.W.Frag) (ct : Tb) (w : Wd) (σ : L2.St) (en : En) : Prop := σ.length = en.length ∧ ∀ (i : Nat) d, en[i]? = some (some d) → ∃ v, σ[i]? = some (some v) ∧ RV K ct w v d
theorem RE.mono {σ : L2.St} {en : En} (e : XT K w w') (h : RE K ct w σ en) : RE K ct w' σ en := ⟨h.1, fun i d q => by
  obtain ⟨v, h1, h2⟩ := h.2 i d q
  exact ⟨v, h1, h2.mono e⟩⟩
theorem RE.set {σ : L2.St} {en : En} {i : Nat} {v : V} {d : D} (h : RE K ct w σ en) (r : RV K ct w v d) : RE K ct w (σ.set i (some v)) (en.set i (some d)) := by
  refine ⟨by simpa using h.1, fun j d' q => ?_⟩
  by_cases hj : i = j
  · subst hj
    by_cases hl : i < en.length
    · rw [List.getElem?_set_self hl] at q
      cases q
      exact ⟨v, by rw [List.getElem?_set_self (by rw [h.1]; exact hl)], r⟩
    · rw [List.getElem?_eq_none (by simpa using hl)] at q; cases q
  · rw [List.getElem?_set_ne hj] at q ⊢
    exact h.2 j d' q
theorem RE.start {N : List Str} {vs : List V} {ds : List D} (r : RVs K ct w vs ds) : RE K ct w (L2.start N vs) (ds.map some ++ List.replicate (N.length - ds.length) none) := by
  refine ⟨by simp [L2.start, r.length], fun i d q => ?_⟩
  unfold L2.start
  by_cases hi : i < ds.length
  · rw [List.getElem?_append_left (by simpa using hi), List.getElem?_map] at q
    cases e : ds[i]? with
    | none => rw [e] at q; cases q
    | some d' =>
      rw [e] at q; cases q
      obtain ⟨v, h1, h2⟩ := r.get e
      refine ⟨v, ?_, h2⟩
      rw [List.getElem?_append_left (by rw [List.length_map, r.length]; exact hi), List.getElem?_map, h1]
      rfl
  · rw [List.getElem?_append_right (by simpa using hi)] at q
    rw [List.getElem?_replicate] at q
    split at q <;> cases q

/-! ### what a mirror's value wishes -/
def RX (K : PySem.W.Frag) (ct : Tb) (w : Wd) (x : Exn) (cls : Value) (dd : Option Addr) : Prop :=
  cls = .ref (ct.c x.c) ∧ ((dd = none ∧ x.fs = []) ∨ ∃ d fs, dd = some d ∧ w.H d = some (.xd fs) ∧ d ∉ w.ρ ∧ RFs K ct w fs x.fs)
theorem RX.mono {x : Exn} {cls : Value} {dd : Option Addr} (e : XT K w w') (h : RX K ct w x cls dd) : RX K ct w' x cls dd := by
  obtain ⟨h1, h2 | ⟨d, fs, e1, e2, e3, r⟩⟩ := h
  · exact ⟨h1, .inl h2⟩
  · refine ⟨h1, .inr ⟨d, fs, e1, e.keep d _ e2 e3, fun hm => ?_, r.mono e⟩⟩
    have := e.newρ d hm e3
    rw [e2] at this; cases this
/-- how a thing and its mirror belong together: the world ahead, the world behind -/
structure Rl (K : PySem.W.Frag) (α β : Type) where
  r : Wd → Wd → β → α → Prop
  anti : ∀ w w1 w2 v d, XT K w w1 → XT K w1 w2 → r w1 w2 v d → r w w2 v d
def LV (K : PySem.W.Frag) (ct : Tb) : Rl K D V := ⟨fun _ w v d => RV K ct w v d, fun _ _ _ _ _ _ _ h => h⟩
def LVs (K : PySem.W.Frag) (ct : Tb) : Rl K (List D) (List V) := ⟨fun _ w v d => RVs K ct w v d, fun _ _ _ _ _ _ _ h => h⟩
def LB (K : PySem.W.Frag) : Rl K Bool Bool := ⟨fun _ _ a b => a = b, fun _ _ _ _ _ _ _ h => h⟩
/-- a new object that no one else holds -/
structure Own (w0 w : Wd) (a : Addr) : Prop where
  free : w0.H a = none
  nF : ¬ w.F a
  nρ : a ∉ w.ρ
  nP : ¬ w.P a
theorem Own.anti {w0 w1 w2 : Wd} {a : Addr} (e : XT K w0 w1) (e' : XT K w1 w2) (h : Own w1 w2 a) : Own w0 w2 a := by
  refine ⟨?_, h.nF, h.nρ, h.nP⟩
  cases q : w0.H a with
  | none => rfl
  | some o =>
    have n0 : a ∉ w0.ρ := fun hm => h.nρ ((e.pre.trans e'.pre).subset hm)
    have := e.keep a o q n0
    rw [h.free] at this; cases this
theorem Own.mono {w0 w1 w2 : Wd} {a : Addr} {o : HO} (h : Own w0 w1 a) (q : w1.H a = some o) (e : XT K w1 w2) : Own w0 w2 a := by
  refine ⟨h.free, fun f => ?_, fun m => ?_, by rw [e.P]; exact h.nP⟩
  · rcases e.newF a f h.nF with z | z
    · rw [q] at z; cases z
    · exact h.nρ z
  · have := e.newρ a m h.nρ
    rw [q] at this; cases this
/-- a new list, its items -/
def LL (K : PySem.W.Frag) (ct : Tb) : Rl K (List D) V := ⟨fun w0 w v ds => ∃ a vs, v = .ref a ∧ w.H a = some (.lst vs) ∧ RVs K ct w vs ds ∧ Own w0 w a, fun _ _ _ _ _ e e' ⟨a, vs, h1, h2, h3, h4⟩ => ⟨a, vs, h1, h2, h3, h4.anti e e'⟩⟩

def Wp {α β : Type} {K : PySem.W.Frag} (ct : Tb) (rel : Rl K α β) (W : WX) (σ : L2.St) (w : Wd) (r : Rs α) (Q : β → Hp → Prop) : Prop := match r with
  | .ok d S => ∀ w' v, XT K w w' → SR K ct w' S → rel.r w w' v d → Q v w'.H
  | .exc x S => ∀ w' cls dd, XT K w w' → SR K ct w' S → RX K ct w' x cls dd → W cls dd σ w'.H
  | .bad => False
theorem Wp.mono {α β : Type} {rel : Rl K α β} {W : WX} {σ : L2.St} {r : Rs α} {Q : β → Hp → Prop} (e : XT K w w') (h : Wp ct rel W σ w r Q) : Wp ct rel W σ w' r Q := by
  cases r with
  | ok d S => exact fun w2 v x s r => h w2 v (e.trans x) s (rel.anti _ _ _ _ _ e x r)
  | exc x S => exact fun w2 c dd y => h w2 c dd (e.trans y)
  | bad => exact h
/-- a mirror as a reading -/
def tG {α β : Type} {K : PySem.W.Frag} (ct : Tb) (rel : Rl K α β) (W : WX) (m : En → Sto → Rs α) : L2.St → Hp → (β → Hp → Prop) → Prop := fun σ H Q =>
  ∃ w S en, w.H = H ∧ SR K ct w S ∧ RE K ct w σ en ∧ Wp ct rel W σ w (m en S) Q
abbrev tM (K : PySem.W.Frag) (ct : Tb) (W : WX) (m : EM) : TE := tG ct (LV K ct) W m
abbrev tMT (K : PySem.W.Frag) (ct : Tb) (W : WX) (m : TM) : TT := tG ct (LB K) W m
abbrev tMA (K : PySem.W.Frag) (ct : Tb) (W : WX) (m : AM) : TA := tG ct (LVs K ct) W m
abbrev tML (K : PySem.W.Frag) (ct : Tb) (W : WX) (m : AM) : TE := tG ct (LL K ct) W m

/-- THE STEP: what is evaluated first, and what goes on with it -/
theorem tG_bind0 {α β γ δ : Type} {rel : Rl K α β} {rel' : Rl K γ δ} {W : WX} {σ : L2.St} {en : En} {S : Sto} {ma : En → Sto → Rs α} {k : α → Sto → Rs γ} {Q : δ → Hp → Prop} {Q' : β → Hp → Prop}
    (st : SR K ct w S) (ev : RE K ct w σ en) (h : Wp ct rel' W σ w ((ma en S).bind k) Q)
    (hk : ∀ d S1 w' v, XT K w w' → SR K ct w' S1 → RE K ct w' σ en → rel.r w w' v d → Wp ct rel' W σ w (k d S1) Q → Q' v w'.H) : tG ct rel W ma σ w.H Q' := by
  refine ⟨w, S, en, rfl, st, ev, ?_⟩
  cases e : ma en S with
  | ok d S1 =>
    rw [e] at h
    exact fun w' v x s r => hk d S1 w' v x s (ev.mono x) r h
  | exc x S1 =>
    rw [e] at h
    exact h
  | bad =>
    rw [e] at h
    exact h
theorem tG_bind {α β γ δ : Type} {rel : Rl K α β} {rel' : Rl K γ δ} {W : WX} {σ : L2.St} {en : En} {S : Sto} {ma : En → Sto → Rs α} {k : α → Sto → Rs γ} {Q : δ → Hp → Prop} {Q' : β → Hp → Prop}
    (st : SR K ct w S) (ev : RE K ct w σ en) (h : Wp ct rel' W σ w ((ma en S).bind k) Q)
    (hk : ∀ d S1 w' v, XT K w w' → SR K ct w' S1 → RE K ct w' σ en → rel.r w w' v d → Wp ct rel' W σ w' (k d S1) Q → Q' v w'.H) : tG ct rel W ma σ w.H Q' :=
  tG_bind0 st ev h fun d S1 w' v x s e r q => hk d S1 w' v x s e r (q.mono x)
/-- an end: a value -/
theorem Wp.ret {W : WX} {σ : L2.St} {a : D} {S : Sto} {Q : VK} {v : V} (h : Wp ct (LV K ct) W σ w (.ok a S) Q) (s : SR K ct w S) (r : RV K ct w v a) : Q v w.H := h w v (XT.refl w) s r
theorem Wp.retB {W : WX} {σ : L2.St} {a : Bool} {S : Sto} {Q : Bool → Hp → Prop} (h : Wp ct (LB K) W σ w (.ok a S) Q) (s : SR K ct w S) : Q a w.H := h w a (XT.refl w) s rfl
theorem Wp.retA {W : WX} {σ : L2.St} {a : List D} {S : Sto} {Q : List V → Hp → Prop} {v : List V} (h : Wp ct (LVs K ct) W σ w (.ok a S) Q) (s : SR K ct w S) (r : RVs K ct w v a) : Q v w.H := h w v (XT.refl w) s r

/-! ### changes of the world -/
def Wd.put (w : Wd) (a : Addr) (o : HO) : Wd := { w with H := upd w.H a o }
def Wd.fro (w : Wd) (a : Addr) : Wd := { w with F := fun b => w.F b ∨ b = a }
def Wd.add (w : Wd) (a : Addr) : Wd := { w with ρ := w.ρ ++ [a] }
theorem sqT_upd {H : Hp} {p a : Addr} {o : HO} {vs : List V} (hp : ∀ u, H p = some u → ∀ q : List V, u ≠ .tup q ∧ ∀ ob, u ≠ .frz ob (.tup q)) (h : H a = some (.tup vs)) : upd H p o a = some (.tup vs) := by
  rw [upd_ne (fun e => ?_)]
  · exact h
  · subst e; exact (hp _ h vs).1 rfl
/-- a new object -/
theorem XT.new {p : Addr} {o : HO} (hp : w.H p = none) : XT K w (w.put p o) :=
  ⟨List.prefix_rfl, fun _ h => h, fun a u h _ => (upd_ne (fun e => by rw [e, hp] at h; cases h)).trans h, fun a u _ h => (upd_ne (fun e => by rw [e, hp] at h; cases h)).trans h,
    fun a vs h => sqT_upd (fun u e => by rw [hp] at e; cases e) h, fun _ h n => absurd h n, fun _ h n => absurd h n, rfl, fun a u _ h => (upd_ne (fun e => by rw [e, hp] at h; cases h)).trans h⟩
theorem SOk.mono {a : Addr} {o : SO} (e : XT K w w') (hH : w'.H a = w.H a) (h : SOk K ct w a o) : SOk K ct w' a o := by
  cases o with
  | lst ds => obtain ⟨vs, h1, h2⟩ := h; exact ⟨vs, hH.trans h1, h2.mono e⟩
  | dct ds => obtain ⟨vs, h1, h2⟩ := h; exact ⟨vs, hH.trans h1, h2.mono e⟩
  | dcT ds => obtain ⟨vs, h1, h2⟩ := h; exact ⟨vs, hH.trans h1, h2.mono e⟩
  | ins c ds => obtain ⟨dx, vs, h1, hi, h2⟩ := h; exact ⟨dx, vs, hH.trans h1, hi, h2.mono e⟩
  | dead => trivial
theorem SR.new {S : Sto} {p : Addr} {o : HO} (st : SR K ct w S) (hp : w.H p = none) : SR K ct (w.put p o) S := by
  have ne : ∀ a u, w.H a = some u → a ≠ p := fun a u h e => by rw [e, hp] at h; cases h
  refine ⟨st.len, st.inj, st.dis, fun i a o h1 h2 => ?_, fun a f => ?_, fun a f => ?_, fun a f => ?_⟩
  · obtain ⟨u, hu⟩ := st.fρ a (List.mem_of_getElem? h1)
    exact (st.ob i a o h1 h2).mono (XT.new hp) (upd_ne (ne a u hu))
  · obtain ⟨u, hu⟩ := st.fin a f
    exact ⟨u, (upd_ne (ne a u hu)).trans hu⟩
  rotate_left
  · obtain ⟨u, hu⟩ := st.fP a f
    exact ⟨u, (upd_ne (ne a u hu)).trans hu⟩
  · obtain ⟨u, hu⟩ := st.fρ a f
    exact ⟨u, (upd_ne (ne a u hu)).trans hu⟩
/-- an own object changes, or is changed while nobody else holds it -/
theorem XT.put {w0 : Wd} {p : Addr} {o : HO} (e : XT K w0 w) (hw : Own w0 w p) (hp : ∀ u, w.H p = some u → ∀ q : List V, u ≠ .tup q ∧ ∀ ob, u ≠ .frz ob (.tup q)) : XT K w0 (w.put p o) := by
  have ne : ∀ a u, w0.H a = some u → a ≠ p := fun a u h z => by rw [z, hw.free] at h; cases h
  refine ⟨e.pre, e.F, fun a u h n => (upd_ne (ne a u h)).trans (e.keep a u h n), fun a u f h => (upd_ne (ne a u h)).trans (e.keepF a u f h), fun a vs h => sqT_upd hp (e.keepT a vs h), e.newρ, e.newF, e.P, fun a u f h => (upd_ne (ne a u h)).trans (e.keepP a u f h)⟩
theorem kp_put {p : Addr} {o : HO} (nF : ¬ w.F p) (hp : ∀ u, w.H p = some u → ∀ q : List V, u ≠ .tup q ∧ ∀ ob, u ≠ .frz ob (.tup q)) : Kp K w (w.put p o) :=
  ⟨fun _ _ h => sqT_upd hp h, fun a _ f h => ⟨f, (upd_ne (fun e => nF (by rw [← e]; exact f))).trans h⟩, fun _ _ h => h⟩
theorem SR.put {S : Sto} {p : Addr} {o : HO} (st : SR K ct w S) (nF : ¬ w.F p) (nρ : p ∉ w.ρ) (nP : ¬ w.P p) (hp : ∀ u, w.H p = some u → ∀ q : List V, u ≠ .tup q ∧ ∀ ob, u ≠ .frz ob (.tup q)) : SR K ct (w.put p o) S := by
  refine ⟨st.len, st.inj, st.dis, fun i a u h1 h2 => ?_, fun a f => ?_, fun a f => ?_, fun a f => ?_⟩
  rotate_left 3
  · obtain ⟨u, hu⟩ := st.fP a f
    exact ⟨u, (upd_ne (fun e => nP (by rw [← e]; exact f))).trans hu⟩
  · have ne : a ≠ p := fun e => nρ (e ▸ List.mem_of_getElem? h1)
    have hH : (w.put p o).H a = w.H a := upd_ne ne
    have h := st.ob i a u h1 h2
    cases u with
    | lst ds => obtain ⟨vs, q1, q2⟩ := h; exact ⟨vs, hH.trans q1, q2.imp (kp_put nF hp)⟩
    | dct ds => obtain ⟨vs, q1, q2, q3⟩ := h; exact ⟨vs, hH.trans q1, q2, q3.imp (kp_put nF hp)⟩
    | dcT ds => obtain ⟨vs, q1, q2, q3⟩ := h; exact ⟨vs, hH.trans q1, q2, q3.imp (kp_put nF hp)⟩
    | ins c ds => obtain ⟨dx, vs, q1, qi, q2, q3⟩ := h; exact ⟨dx, vs, hH.trans q1, qi, q2, q3.imp (kp_put nF hp)⟩
    | dead => trivial
  · obtain ⟨u, hu⟩ := st.fin a f
    exact ⟨u, (upd_ne (fun e => nF (by rw [← e]; exact f))).trans hu⟩
  · obtain ⟨u, hu⟩ := st.fρ a f
    exact ⟨u, (upd_ne (fun e => nρ (by rw [← e]; exact f))).trans hu⟩
/-- an own object is frozen -/
theorem XT.fro {w0 : Wd} {a : Addr} (e : XT K w0 w) (hw : Own w0 w a) : XT K w0 (w.fro a) :=
  ⟨e.pre, fun b f => .inl (e.F b f), e.keep, e.keepF, e.keepT, e.newρ, fun b f n => f.elim (fun f => e.newF b f n) (fun z => .inl (z ▸ hw.free)), e.P, e.keepP⟩
theorem XT.fro1 {a : Addr} (nF : ¬ w.F a) (h : a ∈ w.ρ) : XT K w (w.fro a) :=
  ⟨List.prefix_rfl, fun b f => .inl f, fun _ _ h _ => h, fun _ _ _ h => h, fun _ _ h => h, fun _ h n => absurd h n, fun b f n => f.elim (fun f => absurd f n) (fun z => .inr (z ▸ h)), rfl, fun _ _ _ h => h⟩
theorem kp_fro {a : Addr} : Kp K w (w.fro a) := ⟨fun _ _ h => h, fun _ _ f h => ⟨.inl f, h⟩, fun _ _ h => h⟩
theorem SOk.fro {a b : Addr} {o : SO} (h : SOk K ct w b o) : SOk K ct (w.fro a) b o := by
  cases o with
  | lst ds => obtain ⟨vs, q1, q2⟩ := h; exact ⟨vs, q1, q2.imp kp_fro⟩
  | dct ds => obtain ⟨vs, q1, q2, q3⟩ := h; exact ⟨vs, q1, q2, q3.imp kp_fro⟩
  | dcT ds => obtain ⟨vs, q1, q2, q3⟩ := h; exact ⟨vs, q1, q2, q3.imp kp_fro⟩
  | ins c ds => obtain ⟨dx, vs, q1, qi, q2, q3⟩ := h; exact ⟨dx, vs, q1, qi, q2, q3.imp kp_fro⟩
  | dead => trivial
theorem SR.fro {S : Sto} {a : Addr} {o : HO} (st : SR K ct w S) (nρ : a ∉ w.ρ) (h : w.H a = some o) : SR K ct (w.fro a) S :=
  ⟨st.len, st.inj, fun i b u h1 h2 n => ⟨fun f => f.elim (st.dis i b u h1 h2 n).1 (fun z => nρ (z ▸ List.mem_of_getElem? h1)), (st.dis i b u h1 h2 n).2⟩, fun i b u h1 h2 => (st.ob i b u h1 h2).fro, fun b f => f.elim (st.fin b) (fun z => ⟨o, z ▸ h⟩), st.fρ, st.fP⟩
/-- an own object goes into the store -/
theorem XT.add {w0 : Wd} {a : Addr} (e : XT K w0 w) (hw : Own w0 w a) : XT K w0 (w.add a) :=
  ⟨e.pre.trans (List.prefix_append _ _), e.F, e.keep, e.keepF, e.keepT, fun b h n => (List.mem_append.mp h).elim (fun h => e.newρ b h n) (fun h => by rw [List.mem_singleton.mp h]; exact hw.free), e.newF, e.P, e.keepP⟩
theorem XT.add1 {a : Addr} (h : ∀ o, w.H a = some o → False) : XT K w (w.add a) :=
  ⟨List.prefix_append _ _, fun _ f => f, fun _ _ h _ => h, fun _ _ _ h => h, fun _ _ h => h, fun b hm n => (List.mem_append.mp hm).elim (fun h => absurd h n) (fun z => by
    rw [List.mem_singleton.mp z]
    cases q : w.H a with
    | none => rfl
    | some o => exact (h o q).elim), fun _ h n => absurd h n, rfl, fun _ _ _ h => h⟩
theorem kp_add {a : Addr} : Kp K w (w.add a) := ⟨fun _ _ h => h, fun _ _ f h => ⟨f, h⟩, fun i b h => by
  show (w.ρ ++ [a])[i]? = some b
  rw [List.getElem?_append_left (List.getElem?_eq_some_iff.mp h).1]
  exact h⟩
theorem SOk.add {a b : Addr} {o : SO} (h : SOk K ct w b o) : SOk K ct (w.add a) b o := by
  cases o with
  | lst ds => obtain ⟨vs, q1, q2⟩ := h; exact ⟨vs, q1, q2.imp kp_add⟩
  | dct ds => obtain ⟨vs, q1, q2, q3⟩ := h; exact ⟨vs, q1, q2, q3.imp kp_add⟩
  | dcT ds => obtain ⟨vs, q1, q2, q3⟩ := h; exact ⟨vs, q1, q2, q3.imp kp_add⟩
  | ins c ds => obtain ⟨dx, vs, q1, qi, q2, q3⟩ := h; exact ⟨dx, vs, q1, qi, q2, q3.imp kp_add⟩
  | dead => trivial
theorem SR.add {S : Sto} {a : Addr} {o : HO} {u : SO} (st : SR K ct w S) (nF : ¬ w.F a) (nρ : a ∉ w.ρ) (nP : ¬ w.P a) (h : w.H a = some o) (hu : SOk K ct (w.add a) a u) : SR K ct (w.add a) (S ++ [u]) := by
  have cases_ : ∀ (i : Nat) b (v : SO), (w.ρ ++ [a])[i]? = some b → (S ++ [u])[i]? = some v → (w.ρ[i]? = some b ∧ S[i]? = some v) ∨ (b = a ∧ v = u) := fun i b v h1 h2 => by
    by_cases hi : i < w.ρ.length
    · rw [List.getElem?_append_left hi] at h1
      rw [List.getElem?_append_left (by rw [← st.len]; exact hi)] at h2
      exact .inl ⟨h1, h2⟩
    · have hl : i < (w.ρ ++ [a]).length := (List.getElem?_eq_some_iff.mp h1).1
      have e : i = w.ρ.length := by simp at hl; omega
      subst e
      rw [List.getElem?_append_right (Nat.le_refl _)] at h1
      rw [st.len, List.getElem?_append_right (Nat.le_refl _)] at h2
      simp at h1 h2
      exact .inr ⟨h1.symm, h2.symm⟩
  refine ⟨by simp [Wd.add, st.len], ?_, fun i b v h1 h2 n => ?_, fun i b v h1 h2 => ?_, st.fin, fun b hb => ?_, st.fP⟩
  · show (w.ρ ++ [a]).Nodup
    rw [List.nodup_append]
    exact ⟨st.inj, by simp, fun x hx y hy e => nρ (by rw [List.mem_singleton.mp hy] at e; exact e ▸ hx)⟩
  · rcases cases_ i b v h1 h2 with ⟨h1, h2⟩ | ⟨rfl, rfl⟩
    · exact st.dis i b v h1 h2 n
    · exact ⟨nF, nP⟩
  · rcases cases_ i b v h1 h2 with ⟨h1, h2⟩ | ⟨rfl, rfl⟩
    · exact (st.ob i b v h1 h2).add
    · exact hu
  · rcases List.mem_append.mp hb with hb | hb
    · exact st.fρ b hb
    · rw [List.mem_singleton.mp hb]; exact ⟨o, h⟩
end
end Mi
/-! The mirror layer, expressions: names, constants, operators, tests, displays. -/
namespace Mi
open PySem L2
section
variable {X : Cx} {e : Expr}
theorem pe_weak {t t' : TE} (h : PE X e t) (i : ∀ σ H Q, t' σ H Q → t σ H Q) : PE X e t' := ⟨fun pins s σ H Q I q => h.run pins s σ H Q I (i σ H Q q)⟩
theorem pt_weak {t t' : TT} (h : PT X e t) (i : ∀ σ H Q, t' σ H Q → t σ H Q) : PT X e t' := ⟨fun pins s σ H Q I q => h.run pins s σ H Q I (i σ H Q q)⟩
theorem pw_weak {t t' : TT} (h : PW X e t) (i : ∀ σ H Q, t' σ H Q → t σ H Q) : PW X e t' := ⟨fun wh pins s σ H Q I q => h.run wh pins s σ H Q I (i σ H Q q)⟩
theorem pa_weak {es : List Expr} {t t' : TA} (h : PA X es t) (i : ∀ σ H Q, t' σ H Q → t σ H Q) : PA X es t' := ⟨fun p pins s σ H Q I q => h.run p pins s σ H Q I (i σ H Q q)⟩
theorem pe_or {t t' : TE} (h : PE X e t) (h' : PE X e t') : PE X e (fun σ H Q => t σ H Q ∨ t' σ H Q) := ⟨fun pins s σ H Q I q => q.elim (h.run pins s σ H Q I) (h'.run pins s σ H Q I)⟩
def rOr (r r' : R2) : R2 := fun x y H Q => r x y H Q ∨ r' x y H Q
theorem op_or2 {f : Value → Value → Sem Value} {r r' : R2} (h : OpR X f r) (h' : OpR X f r') : OpR X f (rOr r r') := fun pins s σ H x y v u Q I rx ry q => q.elim (h pins s σ H x y v u Q I rx ry) (h' pins s σ H x y v u Q I rx ry)
end

/-! ### mirrors -/
def mVar (i : Nat) : EM := fun en S => match en[i]? with
  | some (some d) => .ok d S
  | _ => .bad
def mC (d : D) : EM := fun _ S => .ok d S
/-- a pure operation of the store's things -/
abbrev Op2 := D → D → Sto → Option D
abbrev OpN := List D → Sto → Option D
def opt {α : Type} (o : Option α) (S : Sto) : Rs α := match o with
  | some d => .ok d S
  | none => .bad
def mBin (f : Op2) (a b : EM) : EM := fun en S => (a en S).bind fun x S1 => (b en S1).bind fun y S2 => opt (f x y S2) S2
def mUn (f : D → Sto → Option D) (a : EM) : EM := fun en S => (a en S).bind fun x S1 => opt (f x S1) S1
def mNil : AM := fun _ S => .ok [] S
def mCons (a : EM) (b : AM) : AM := fun en S => (a en S).bind fun x S1 => (b en S1).bind fun xs S2 => .ok (x :: xs) S2
def mOpN (f : OpN) (a : AM) : EM := fun en S => (a en S).bind fun xs S1 => opt (f xs S1) S1
/-- a value's test -/
def asB : D → Sto → Rs Bool
  | .bl b, S => .ok b S
  | _, _ => .bad
def mTest (a : EM) : TM := fun en S => (a en S).bind asB
def mAnd (a b : TM) : TM := fun en S => (a en S).bind fun x S1 => if x = true then b en S1 else .ok false S1
def mOr (a b : TM) : TM := fun en S => (a en S).bind fun x S1 => if x = true then .ok true S1 else b en S1
def mNot (a : TM) : TM := fun en S => (a en S).bind fun x S1 => .ok (!x) S1
def mAndV (a b : EM) : EM := fun en S => (a en S).bind fun x S1 => match x with
  | .bl c => if c = true then b en S1 else .ok (.bl false) S1
  | _ => .bad
def mOrV (a b : EM) : EM := fun en S => (a en S).bind fun x S1 => match x with
  | .bl c => if c = true then .ok (.bl true) S1 else b en S1
  | _ => .bad
def mNotV (a : EM) : EM := fun en S => (a en S).bind fun x S1 => match x with
  | .bl c => .ok (.bl (!c)) S1
  | _ => .bad
def mIf (t : TM) (a b : EM) : EM := fun en S => (t en S).bind fun x S1 => if x = true then a en S1 else b en S1
/-- a OP b OP' c -/
def mChain (f g : Op2) (a b c : EM) : EM := fun en S => (a en S).bind fun x S1 => (b en S1).bind fun y S2 => (opt (f x y S2) S2).bind fun z S3 => match z with
  | .bl k => if k = true then (c en S3).bind fun u S4 => opt (g y u S4) S4 else .ok (.bl false) S3
  | _ => .bad

section
variable {K : PySem.W.Frag} {ct : Tb} {w w' : Wd}
/-- an operation's lift -/
def Lift2 (K : PySem.W.Frag) (ct : Tb) (r : R2) (f : Op2) : Prop := ∀ (w : Wd) (S : Sto) (x y : V) (dx dy d : D) (Q : VK), SR K ct w S → RV K ct w x dx → RV K ct w y dy → f dx dy S = some d →
  (∀ w' v, XT K w w' → SR K ct w' S → RV K ct w' v d → Q v w'.H) → r x y w.H Q
def LiftN (K : PySem.W.Frag) (ct : Tb) (r : List V → Hp → VK → Prop) (f : OpN) : Prop := ∀ (w : Wd) (S : Sto) (xs : List V) (ds : List D) (d : D) (Q : VK), SR K ct w S → RVs K ct w xs ds → f ds S = some d →
  (∀ w' v, XT K w w' → SR K ct w' S → RV K ct w' v d → Q v w'.H) → r xs w.H Q
def Lift1 (K : PySem.W.Frag) (ct : Tb) (r : V → Hp → VK → Prop) (f : D → Sto → Option D) : Prop := ∀ (w : Wd) (S : Sto) (x : V) (dx d : D) (Q : VK), SR K ct w S → RV K ct w x dx → f dx S = some d →
  (∀ w' v, XT K w w' → SR K ct w' S → RV K ct w' v d → Q v w'.H) → r x w.H Q
theorem wp_opt {α β : Type} {rel : Rl K α β} {W : WX} {σ : L2.St} {o : Option α} {S : Sto} {Q : β → Hp → Prop} (h : Wp ct rel W σ w (opt o S) Q) : ∃ d, o = some d ∧ ∀ w' v, XT K w w' → SR K ct w' S → rel.r w w' v d → Q v w'.H := by
  cases o with
  | none => exact h.elim
  | some d => exact ⟨d, rfl, h⟩
/-- two operations, by what they are asked of -/
def alt (f g : Op2) : Op2 := fun x y S => match f x y S with
  | some d => some d
  | none => g x y S
theorem Lift2.or {r r' : R2} {f g : Op2} (h : Lift2 K ct r f) (h' : Lift2 K ct r' g) : Lift2 K ct (rOr r r') (alt f g) := fun w S x y dx dy d Q s rx ry e q => by
  unfold alt at e
  cases q1 : f dx dy S with
  | some d' =>
    rw [q1] at e
    cases e
    exact .inl (h w S x y dx dy d Q s rx ry q1 q)
  | none =>
    rw [q1] at e
    exact .inr (h' w S x y dx dy d Q s rx ry e q)
end

section
variable {X : Cx} {ct : Tb} {W : WX} {e a b c : Expr} {es rest : List Expr} {pos : Pos}
theorem me_var {i : Nat} {x : Str} {pos : Pos} (hN : X.N[i]? = some x) (hv : Vis X.env.scope x) (hd : (x == ("__debug__" : Str)) = false := by decide) (hcd : (x == ("__classdict__" : Str)) = false := by decide) : PE X (.Name x pos) (tM X.K ct W (mVar i)) :=
  pe_weak (pe_var hN hv hd hcd) fun σ H Q h => by
    obtain ⟨w, S, en, rfl, st, ev, h⟩ := h
    unfold mVar at h
    split at h
    · rename_i d hd
      obtain ⟨v, h1, h2⟩ := ev.2 i d hd
      exact ⟨v, h1, Wp.ret h st h2⟩
    · exact h.elim
theorem me_ret {v : V} {d : D} (hp : PE X e (tC v)) (r : ∀ w, RV X.K ct w v d) : PE X e (tM X.K ct W (mC d)) := pe_weak hp fun σ H Q h => by
  obtain ⟨w, S, en, rfl, st, ev, h⟩ := h
  exact Wp.ret h st (r w)
theorem me_int {i j pos} : PE X (.Constant (.int i) j pos) (tM X.K ct W (mC (.int i))) := me_ret pe_int fun _ => .int
theorem me_str {x j pos} : PE X (.Constant (.str x) j pos) (tM X.K ct W (mC (.str x))) := me_ret pe_str fun _ => .str
theorem me_bl {b j pos} : PE X (.Constant (.bool b) j pos) (tM X.K ct W (mC (.bl b))) := me_ret pe_bl fun _ => .bl
theorem me_non {j pos} : PE X (.Constant .none j pos) (tM X.K ct W (mC .non)) := me_ret pe_non fun _ => .non
/-- a constant of the module -/
def GV (K : PySem.W.Frag) (mg : Str → Option Value) (x : Str) (d : D) : Prop := ∃ u v, mg x = some u ∧ RelV v u ∧ ∀ (ct : Tb) w, RV K ct w v d
theorem me_glob {x : Str} {d : D} {pos : Pos} (hg : Gl X x) (g : GV X.K X.mg x d) (hd : (x == ("__debug__" : Str)) = false := by decide) : PE X (.Name x pos) (tM X.K ct W (mC d)) := by
  obtain ⟨u, v, h1, h2, h3⟩ := g
  exact me_ret (pe_glob hg h1 h2 hd) (h3 ct)
theorem gv_int {K : PySem.W.Frag} {mg : Str → Option Value} {x : Str} {i : Int} {t : Tok} (h : mg x = some (.int i t)) : GV K mg x (.int i) := ⟨_, .int i, h, ⟨_, rfl⟩, fun _ _ => .int⟩
theorem gv_str {K : PySem.W.Frag} {mg : Str → Option Value} {x s : Str} {t : Tok} (h : mg x = some (.str s t)) : GV K mg x (.str s) := ⟨_, .str s, h, ⟨_, rfl⟩, fun _ _ => .str⟩

theorem me_bin {op : Operator} {r : R2} {f : Op2} {ma mb : EM} (ho : OpR X (binaryOp op) r) (lf : Lift2 X.K ct r f) (ha : PE X a (tM X.K ct W ma)) (hb : PE X b (tM X.K ct W mb)) : PE X (.BinOp a op b pos) (tM X.K ct W (mBin f ma mb)) :=
  pe_weak (pe_op ho ha hb) fun σ H Q h => by
    obtain ⟨w, S, en, rfl, st, ev, h⟩ := h
    refine tG_bind st ev h fun dx S1 w1 x e1 st1 ev1 rx h1 => tG_bind st1 ev1 h1 fun dy S2 w2 y e2 st2 ev2 ry h2 => ?_
    obtain ⟨d, e, q⟩ := wp_opt h2
    exact lf w2 S2 x y dx dy d Q st2 (rx.mono e2) ry e q
theorem me_cmp {op : CmpOp} {r : R2} {f : Op2} {ma mb : EM} (ho : OpR X (compareOp op) r) (lf : Lift2 X.K ct r f) (ha : PE X a (tM X.K ct W ma)) (hb : PE X b (tM X.K ct W mb)) (hm : behindInMarks op b = false) : PE X (.Compare a [op] [b] pos) (tM X.K ct W (mBin f ma mb)) :=
  pe_weak (pe_cmpR ho ha hb hm) fun σ H Q h => by
    obtain ⟨w, S, en, rfl, st, ev, h⟩ := h
    refine tG_bind st ev h fun dx S1 w1 x e1 st1 ev1 rx h1 => tG_bind st1 ev1 h1 fun dy S2 w2 y e2 st2 ev2 ry h2 => ?_
    obtain ⟨d, e, q⟩ := wp_opt h2
    exact lf w2 S2 x y dx dy d Q st2 (rx.mono e2) ry e q
theorem me_un {op : UnaryOp} {r : V → Hp → VK → Prop} {f : D → Sto → Option D} {ma : EM} (ho : UnR X (unaryOp op) r) (lf : Lift1 X.K ct r f) (ha : PE X a (tM X.K ct W ma)) (hn : op ≠ .Not := by decide) : PE X (.UnaryOp op a pos) (tM X.K ct W (mUn f ma)) := by
  cases op with
  | Not => exact absurd rfl hn
  | _ =>
    refine pe_weak (pe_un ho ha) fun σ H Q h => ?_
    obtain ⟨w, S, en, rfl, st, ev, h⟩ := h
    refine tG_bind st ev h fun dx S1 w1 x e1 st1 ev1 rx h1 => ?_
    obtain ⟨d, e, q⟩ := wp_opt h1
    exact lf w1 S1 x dx d Q st1 rx e q
theorem wp_test {σ : L2.St} {w : Wd} {S : Sto} {x : V} {dx : D} {Q : Bool → Hp → Prop} (st : SR X.K ct w S) (rx : RV X.K ct w x dx) (h : Wp ct (LB X.K) W σ w (asB dx S) Q) : ∃ k, x = .bl k ∧ Q k w.H := by
  cases rx with
  | bl => exact ⟨_, rfl, Wp.retB h st⟩
  | _ => exact h.elim
theorem mt_cmp {op : CmpOp} {r : R2} {f : Op2} {ma mb : EM} (ho : OpR X (compareOp op) r) (lf : Lift2 X.K ct r f) (ha : PE X a (tM X.K ct W ma)) (hb : PE X b (tM X.K ct W mb)) (hm : behindInMarks op b = false) : PT X (.Compare a [op] [b] pos) (tMT X.K ct W (mTest (mBin f ma mb))) :=
  pt_weak (pt_cmpR ho ha hb hm) fun σ H Q h => by
    obtain ⟨w, S, en, rfl, st, ev, h⟩ := h
    unfold mTest mBin at h
    cases e1 : ma en S with
    | bad => rw [e1] at h; exact h.elim
    | exc x1 S1 =>
      rw [e1] at h
      exact ⟨w, S, en, rfl, st, ev, by rw [e1]; exact h⟩
    | ok dx S1 =>
      rw [e1] at h
      refine ⟨w, S, en, rfl, st, ev, ?_⟩
      rw [e1]
      intro w1 x x1 st1 rx
      have h := Wp.mono x1 h
      have ev1 := ev.mono x1
      refine ⟨w1, S1, en, rfl, st1, ev1, ?_⟩
      dsimp only [Rs.bind] at h
      cases e2 : mb en S1 with
      | bad => rw [e2] at h; exact h.elim
      | exc x2 S2 => rw [e2] at h; exact h
      | ok dy S2 =>
        rw [e2] at h
        intro w2 y x2 st2 ry
        have h := Wp.mono x2 h
        dsimp only [Rs.bind] at h
        cases e3 : f dx dy S2 with
        | none => rw [e3] at h; exact h.elim
        | some d =>
          rw [e3] at h
          refine lf w2 S2 x y dx dy d _ st2 (rx.mono x2) ry e3 fun w3 v x3 st3 rv => ?_
          have h : Wp ct (LB X.K) W σ w2 (asB d S2) Q := h
          exact wp_test st3 rv (Wp.mono x3 h)
/-- a test of a thing that is a truth (a call, a name, ..) -/
theorem mt_val {m : EM} (h : PE X e (tM X.K ct W m)) (he : ∀ whole, isTrue e X.env whole = (do let v ← whole; standAt e.pos; holding [v] (truthy v)) := by intro _; rfl) : PT X e (tMT X.K ct W (mTest m)) :=
  pt_weak (pt_val h he) fun σ H Q h => by
    obtain ⟨w, S, en, rfl, st, ev, h⟩ := h
    exact tG_bind st ev h fun dx S1 w1 x e1 st1 ev1 rx h1 => wp_test st1 rx h1
theorem mt_not {m : TM} (h : PT X a (tMT X.K ct W m)) : PT X (.UnaryOp .Not a pos) (tMT X.K ct W (mNot m)) := pt_weak (L2.pt_not h) fun σ H Q h => by
  obtain ⟨w, S, en, rfl, st, ev, h⟩ := h
  exact tG_bind st ev h fun dx S1 w1 x e1 st1 ev1 rx h1 => by
    cases rx
    exact Wp.retB h1 st1
theorem mw_one {m : TM} {op : BoolOp} (h : PT X a (tMT X.K ct W m)) : PW X (.BoolOp op [a] pos) (tMT X.K ct W m) := by
  cases op
  · exact pw_and1 h
  · exact pw_or1 h
theorem mw_and {m n : TM} (ha : PT X a (tMT X.K ct W m)) (hb : PW X (.BoolOp .And (b :: rest) pos) (tMT X.K ct W n)) : PW X (.BoolOp .And (a :: b :: rest) pos) (tMT X.K ct W (mAnd m n)) := pw_weak (pw_and ha hb) fun σ H Q h => by
  obtain ⟨w, S, en, rfl, st, ev, h⟩ := h
  refine tG_bind st ev h fun dx S1 w1 x e1 st1 ev1 rx h1 => ?_
  cases rx
  cases dx with
  | true => exact ⟨w1, S1, en, rfl, st1, ev1, h1⟩
  | false => exact Wp.retB h1 st1
theorem mw_or {m n : TM} (ha : PT X a (tMT X.K ct W m)) (hb : PW X (.BoolOp .Or (b :: rest) pos) (tMT X.K ct W n)) : PW X (.BoolOp .Or (a :: b :: rest) pos) (tMT X.K ct W (mOr m n)) := pw_weak (pw_or ha hb) fun σ H Q h => by
  obtain ⟨w, S, en, rfl, st, ev, h⟩ := h
  refine tG_bind st ev h fun dx S1 w1 x e1 st1 ev1 rx h1 => ?_
  cases rx
  cases dx with
  | true => exact Wp.retB h1 st1
  | false => exact ⟨w1, S1, en, rfl, st1, ev1, h1⟩
theorem me_one {m : EM} {op : BoolOp} (h : PE X a (tM X.K ct W m)) : PE X (.BoolOp op [a] pos) (tM X.K ct W m) := pe_one h
theorem me_and {m n : EM} (ha : PE X a (tM X.K ct W m)) (hb : PE X (.BoolOp .And (b :: rest) pos) (tM X.K ct W n)) : PE X (.BoolOp .And (a :: b :: rest) pos) (tM X.K ct W (mAndV m n)) := pe_weak (pe_and ha hb) fun σ H Q h => by
  obtain ⟨w, S, en, rfl, st, ev, h⟩ := h
  refine tG_bind st ev h fun dx S1 w1 x e1 st1 ev1 rx h1 => ?_
  cases rx with
  | @bl c =>
    refine ⟨c, rfl, ?_⟩
    cases c with
    | true => exact ⟨w1, S1, en, rfl, st1, ev1, h1⟩
    | false => exact Wp.ret h1 st1 .bl
  | _ => exact h1.elim
theorem me_or {m n : EM} (ha : PE X a (tM X.K ct W m)) (hb : PE X (.BoolOp .Or (b :: rest) pos) (tM X.K ct W n)) : PE X (.BoolOp .Or (a :: b :: rest) pos) (tM X.K ct W (mOrV m n)) := pe_weak (L2.pe_or ha hb) fun σ H Q h => by
  obtain ⟨w, S, en, rfl, st, ev, h⟩ := h
  refine tG_bind st ev h fun dx S1 w1 x e1 st1 ev1 rx h1 => ?_
  cases rx with
  | @bl c =>
    refine ⟨c, rfl, ?_⟩
    cases c with
    | true => exact Wp.ret h1 st1 .bl
    | false => exact ⟨w1, S1, en, rfl, st1, ev1, h1⟩
  | _ => exact h1.elim
theorem me_not {m : EM} (ha : PE X a (tM X.K ct W m)) : PE X (.UnaryOp .Not a pos) (tM X.K ct W (mNotV m)) := pe_weak (pe_not ha) fun σ H Q h => by
  obtain ⟨w, S, en, rfl, st, ev, h⟩ := h
  refine tG_bind st ev h fun dx S1 w1 x e1 st1 ev1 rx h1 => ?_
  cases rx with
  | @bl c => exact ⟨c, rfl, Wp.ret h1 st1 .bl⟩
  | _ => exact h1.elim
theorem me_ifExp {t : TM} {m n : EM} (hc : PT X c (tMT X.K ct W t)) (ha : PE X a (tM X.K ct W m)) (hb : PE X b (tM X.K ct W n)) : PE X (.IfExp c a b pos) (tM X.K ct W (mIf t m n)) := pe_weak (pe_ifExp hc ha hb) fun σ H Q h => by
  obtain ⟨w, S, en, rfl, st, ev, h⟩ := h
  refine tG_bind st ev h fun dx S1 w1 x e1 st1 ev1 rx h1 => ?_
  cases rx
  cases dx with
  | true => exact ⟨w1, S1, en, rfl, st1, ev1, h1⟩
  | false => exact ⟨w1, S1, en, rfl, st1, ev1, h1⟩
theorem ma_nil : PA X [] (tMA X.K ct W mNil) := pa_weak pa_nil fun σ H Q h => by
  obtain ⟨w, S, en, rfl, st, ev, h⟩ := h
  exact Wp.retA h st .nil
theorem ma_cons {m : EM} {n : AM} (ha : PE X e (tM X.K ct W m)) (hr : PA X es (tMA X.K ct W n)) (hs : starEach (e :: es) X.env = (false, eval e X.env) :: starEach es X.env := by rfl) : PA X (e :: es) (tMA X.K ct W (mCons m n)) := pa_weak (pa_cons ha hr hs) fun σ H Q h => by
  obtain ⟨w, S, en, rfl, st, ev, h⟩ := h
  refine tG_bind st ev h fun dx S1 w1 x e1 st1 ev1 rx h1 => tG_bind st1 ev1 h1 fun dy S2 w2 y e2 st2 ev2 ry h2 => ?_
  exact Wp.retA h2 st2 (.cons (rx.mono e2) ry)
/-- a built-in, by its values -/
theorem me_callB {x : Str} {p : Pos} {id : String} {r : List V → Hp → VK → Prop} {f : OpN} {n : AM} (hc : CallR X (.builtin id) r) (lf : LiftN X.K ct r f) (hg : Gl X x) (hm : X.mg x = none) (hv : bootBuiltins x = some (.builtin id)) (ha : PA X (e :: es) (tMA X.K ct W n)) (hn : x ≠ "__name__" := by decide) (hdb : (x == ("__debug__" : Str)) = false := by decide)
    (he : starEach (e :: es) X.env = (false, eval e X.env) :: starEach es X.env := by rfl) (hpl : (backTo pos (starEach es X.env)).any (·.1) = false := by rfl) : PE X (.Call (.Name x p) (e :: es) [] pos) (tM X.K ct W (mOpN f n)) :=
  pe_weak (pe_callB hc hg hm hv ha hn hdb he hpl) fun σ H Q h => by
    obtain ⟨w, S, en, rfl, st, ev, h⟩ := h
    refine tG_bind st ev h fun dx S1 w1 x e1 st1 ev1 rx h1 => ?_
    obtain ⟨d, e, q⟩ := wp_opt h1
    exact lf w1 S1 x dx d Q st1 rx e q
theorem me_callTy {x : Str} {p : Pos} {T : String} {r : List V → Hp → VK → Prop} {f : OpN} {n : AM} (hc : CallR X (.type T) r) (lf : LiftN X.K ct r f) (hg : Gl X x) (hm : X.mg x = none) (hv : bootBuiltins x = some (.type T)) (ha : PA X (e :: es) (tMA X.K ct W n)) (hn : x ≠ "__name__" := by decide) (hdb : (x == ("__debug__" : Str)) = false := by decide)
    (he : starEach (e :: es) X.env = (false, eval e X.env) :: starEach es X.env := by rfl) (hpl : (backTo pos (starEach es X.env)).any (·.1) = false := by rfl) : PE X (.Call (.Name x p) (e :: es) [] pos) (tM X.K ct W (mOpN f n)) :=
  pe_weak (pe_callTy hc hg hm hv ha hn hdb he hpl) fun σ H Q h => by
    obtain ⟨w, S, en, rfl, st, ev, h⟩ := h
    refine tG_bind st ev h fun dx S1 w1 x e1 st1 ev1 rx h1 => ?_
    obtain ⟨d, e, q⟩ := wp_opt h1
    exact lf w1 S1 x dx d Q st1 rx e q
end
end Mi
/-! The mirror layer: new things, lists, tuples, operators by their values. -/
namespace Mi
open PySem L2
section
variable {K : PySem.W.Frag} {ct : Tb} {w w' : Wd}
theorem mk_tup {S : Sto} {p : Addr} {vs : List V} {ds : List D} (st : SR K ct w S) (r : RVs K ct w vs ds) (hp : w.H p = none) : ∃ w', w'.H = upd w.H p (.tup vs) ∧ XT K w w' ∧ SR K ct w' S ∧ RV K ct w' (.ref p) (.tup ds) :=
  ⟨w.put p (.tup vs), rfl, XT.new hp, st.new hp, .tup upd_same (r.mono (XT.new hp))⟩
theorem mk_own {S : Sto} {p : Addr} {vs : List V} {ds : List D} (st : SR K ct w S) (r : RVs K ct w vs ds) (hp : w.H p = none) : ∃ w', w'.H = upd w.H p (.lst vs) ∧ XT K w w' ∧ SR K ct w' S ∧ (LL K ct).r w w' (.ref p) ds :=
  ⟨w.put p (.lst vs), rfl, XT.new hp, st.new hp, p, vs, rfl, upd_same, r.mono (XT.new hp), hp, (fun f => by
    obtain ⟨o, e⟩ := st.fin p f
    rw [hp] at e
    cases e), (fun m => by
    obtain ⟨o, e⟩ := st.fρ p m
    rw [hp] at e
    cases e), (fun m => by
    obtain ⟨o, e⟩ := st.fP p m
    rw [hp] at e
    cases e)⟩
theorem own_frz {S : Sto} {w0 : Wd} {v : V} {ds : List D} (e : XT K w0 w) (st : SR K ct w S) (h : (LL K ct).r w0 w v ds) : ∃ w', w'.H = w.H ∧ XT K w0 w' ∧ SR K ct w' S ∧ RV K ct w' v (.lst ds) := by
  obtain ⟨a, vs, rfl, hH, r, ow⟩ := h
  exact ⟨w.fro a, rfl, e.fro ow, st.fro ow.nρ hH, .lst (.inl ⟨.inr rfl, .inl hH⟩) (r.imp kp_fro)⟩
theorem own_new {S : Sto} {w0 : Wd} {v : V} {ds : List D} (e : XT K w0 w) (st : SR K ct w S) (h : (LL K ct).r w0 w v ds) : ∃ w', w'.H = w.H ∧ XT K w0 w' ∧ SR K ct w' (S ++ [.lst ds]) ∧ RV K ct w' v (.ref S.length) := by
  obtain ⟨a, vs, rfl, hH, r, ow⟩ := h
  refine ⟨w.add a, rfl, e.add ow, st.add ow.nF ow.nρ ow.nP hH ⟨vs, hH, r.imp kp_add⟩, .ref ?_⟩
  show (w.ρ ++ [a])[S.length]? = some a
  rw [← st.len, List.getElem?_append_right (Nat.le_refl _)]
  simp
theorem mk_lst {S : Sto} {p : Addr} {vs : List V} {ds : List D} (st : SR K ct w S) (r : RVs K ct w vs ds) (hp : w.H p = none) : ∃ w', w'.H = upd w.H p (.lst vs) ∧ XT K w w' ∧ SR K ct w' S ∧ RV K ct w' (.ref p) (.lst ds) := by
  obtain ⟨w1, e1, x1, s1, h⟩ := mk_own st r hp
  obtain ⟨w2, e2, x2, s2, h2⟩ := own_frz x1 s1 h
  exact ⟨w2, e2.trans e1, x2, s2, h2⟩

/-! ### what is read -/
def asL (S : Sto) : D → Option (List D)
  | .lst ds => some ds
  | .ref i => match S[i]? with
    | some (.lst ds) => some ds
    | _ => none
  | _ => none
theorem SR.lst {S : Sto} {v : V} {d : D} {ds : List D} (st : SR K ct w S) (r : RV K ct w v d) (h : asL S d = some ds) : ∃ a vs, v = .ref a ∧ SqL K w.H a vs ∧ RVs K ct w vs ds := by
  cases r with
  | lst q r =>
    cases h
    refine ⟨_, _, rfl, ?_, r⟩
    rcases q with q | q
    · exact .inl q.2
    · exact .inr q
  | ref q =>
    rename_i a i
    unfold asL at h
    dsimp only at h
    split at h
    · rename_i ds' e
      cases h
      obtain ⟨vs, h1, h2⟩ := st.ob i a _ q e
      exact ⟨a, vs, rfl, .of h1, h2⟩
    · cases h
  | _ => cases h
def asT : D → Option (List D)
  | .tup ds => some ds
  | .ktup ds => some ds
  | _ => none
theorem RV.tupD {v : V} {d : D} {ds : List D} (r : RV K ct w v d) (h : asT d = some ds) : ∃ a vs, v = .ref a ∧ SqT K w.H a vs ∧ RVs K ct w vs ds := by
  cases r with
  | tup q r => cases h; exact ⟨_, _, rfl, .inl (.inl q), r⟩
  | ktup q r => cases h; exact ⟨_, _, rfl, .inr q, r⟩
  | _ => cases h
/-- a dict of ints and texts -/
def asK (S : Sto) : D → Option (List (Key × D))
  | .dct ds => some ds
  | .ref i => match S[i]? with
    | some (.dct ds) => some ds
    | _ => none
  | _ => none
theorem SR.dK {S : Sto} {v : V} {d : D} {ds : List (Key × D)} (st : SR K ct w S) (r : RV K ct w v d) (h : asK S d = some ds) : ∃ a vs, v = .ref a ∧ w.H a = some (.dK vs) ∧ RKs K ct w vs ds := by
  cases r with
  | dct f q k r => cases h; exact ⟨_, _, rfl, q, k, r⟩
  | ref q =>
    rename_i a i
    unfold asK at h
    dsimp only at h
    split at h
    · rename_i ds' e
      cases h
      obtain ⟨vs, h1, h2⟩ := st.ob i a _ q e
      exact ⟨a, vs, rfl, h1, h2⟩
    · cases h
  | _ => cases h
def asI (S : Sto) : D → Option (Nat × List (Nat × D))
  | .obj c fs => some (c, fs)
  | .ref i => match S[i]? with
    | some (.ins c fs) => some (c, fs)
    | _ => none
  | _ => none
theorem SR.ins {S : Sto} {v : V} {d : D} {c : Nat} {ds : List (Nat × D)} (st : SR K ct w S) (r : RV K ct w v d) (h : asI S d = some (c, ds)) : ∃ a dx vs, v = .ref a ∧ w.H a = some (.ins (ct.c c) dx vs) ∧ InsOk K (ct.c c) vs ∧ RFs K ct w vs ds := by
  cases r with
  | obj f q i k r => cases h; exact ⟨_, _, _, rfl, q, i, k, r⟩
  | ref q =>
    rename_i a i
    unfold asI at h
    dsimp only at h
    split at h
    · rename_i c' ds' e
      cases h
      obtain ⟨dx, vs, h1, hi, h2⟩ := st.ob i a _ q e
      exact ⟨a, dx, vs, rfl, h1, hi, h2⟩
    · cases h
  | _ => cases h
theorem RFs.lookup {kvs : List (Str × V)} : ∀ {kds : List (Nat × D)} {i : Nat} {f : Str}, ct.f[i]? = some f → RFs K ct w kvs kds → (∀ d, kds.lookup i = some d → ∃ v, kvs.lookup f = some v ∧ RV K ct w v d) ∧ (kds.lookup i = none → kvs.lookup f = none) := by
  induction kvs with
  | nil =>
    intro kds i f _ h
    cases kds with
    | nil => exact ⟨(fun _ e => by cases e), fun _ => rfl⟩
    | cons p r => exact absurd h.1 (by simp)
  | cons q kvs ih =>
    intro kds i f hi h
    cases kds with
    | nil => exact absurd h.1 (by simp)
    | cons p r =>
      obtain ⟨k, v⟩ := q
      obtain ⟨k', d'⟩ := p
      obtain ⟨h1, h2⟩ := h
      simp only [List.map_cons, List.cons.injEq] at h1
      obtain ⟨hk, h1⟩ := h1
      cases h2 with
      | cons rv rs =>
        have h3 := ih (kds := r) hi ⟨h1, rs⟩
        rw [List.lookup_cons, List.lookup_cons]
        have e : (f == k) = (i == k') := by
          by_cases hk2 : i = k'
          · subst hk2
            rw [hi] at hk
            cases hk
            simp
          · have : ¬ f = k := fun z => hk2 (nodup_ix ct.nd hi (by rw [z]; exact hk.symm))
            rw [beq_eq_false_iff_ne.mpr this, beq_eq_false_iff_ne.mpr hk2]
        rw [e]
        cases hb : i == k' with
        | true => exact ⟨(fun d e => ⟨v, rfl, (by cases e; exact rv)⟩), (fun e => by cases e)⟩
        | false => exact h3
/-- a name that is no field's -/
theorem RFs.no {kvs : List (Str × V)} {kds : List (Nat × D)} {m : Str} (hm : m ∉ ct.f) (h : RFs K ct w kvs kds) : kvs.lookup m = none := by
  have key : ∀ (l : List (Str × V)), (∀ p ∈ l, p.1 ∈ ct.f) → l.lookup m = none := by
    intro l
    induction l with
    | nil => intro _; rfl
    | cons q l ih =>
      intro hl
      rw [List.lookup_cons]
      have : (m == q.1) = false := beq_eq_false_iff_ne.mpr fun e => hm (by rw [e]; exact hl q List.mem_cons_self)
      rw [this]
      exact ih fun p hp => hl p (List.mem_cons_of_mem _ hp)
  refine key kvs fun p hp => ?_
  have : some p.1 ∈ kds.map (fun p => ct.f[p.1]?) := by
    rw [← h.1]
    exact List.mem_map.mpr ⟨p, hp, rfl⟩
  obtain ⟨q, _, e⟩ := List.mem_map.mp this
  exact List.mem_of_getElem? e
theorem atI_rel {xs : List V} {ds : List D} {i : Int} {d : D} (r : RVs K ct w xs ds) (h : atI ds i = some d) : ∃ v, atI xs i = some v ∧ RV K ct w v d := by
  unfold atI at h ⊢
  rw [r.length]
  cases e : ixN ds.length i with
  | none => rw [e] at h; cases h
  | some j =>
    rw [e] at h
    exact r.get h
end

/-! ### the operators -/
def dAddI : Op2 | .int i, .int j, _ => some (.int (i + j)) | _, _, _ => none
def dAddS : Op2 | .str i, .str j, _ => if i.length + j.length ≤ sizeLine then some (.str (i ++ j)) else none | _, _, _ => none
def dAddT : Op2 := fun a b _ => match a, b with
  | .tup i, .tup j => if i.length + j.length ≤ sizeLine then some (.tup (i ++ j)) else none
  | _, _ => none
/-- + of lists; the new one never changes -/
def dAddL : Op2 := fun a b S => match asL S a, asL S b with
  | some i, some j => if i.length + j.length ≤ sizeLine then some (.lst (i ++ j)) else none
  | _, _ => none
def dAdd : Op2 := alt dAddI (alt dAddS (alt dAddT dAddL))
def dInt2 (c : Int → Int → Bool) (g : Int → Int → D) : Op2 := fun a b _ => match a, b with
  | .int i, .int j => if c i j = true then some (g i j) else none
  | _, _ => none
def dSub : Op2 := dInt2 (fun _ _ => true) fun i j => .int (i - j)
def dMulI : Op2 := dInt2 (fun i j => decide (i.natAbs.log2 + j.natAbs.log2 < 100000000)) fun i j => .int (i * j)
theorem mulX_of {i j : Int} (h : i.natAbs.log2 + j.natAbs.log2 < 100000000) : CMulX i j := by
  have b : ∀ x : Int, Builtin.Int.intBits x ≤ x.natAbs.log2 + 1 := fun x => by
    unfold Builtin.Int.intBits
    split <;> omega
  have h1 := b i
  have h2 := b j
  unfold CMulX
  omega
def dFDiv : Op2 := dInt2 (fun _ j => decide (0 < j ∧ j.natAbs.log2 < 9000)) fun i j => .int (i / j)
def dMod : Op2 := dInt2 (fun _ j => decide (0 < j)) fun i j => .int (i % j)
def dPow : Op2 := dInt2 (fun i j => decide (0 ≤ j ∧ j ≤ 1000000 ∧ i.natAbs < 2 ^ 64)) fun i j => .int (i ^ j.toNat)
def dLt : Op2 := dInt2 (fun _ _ => true) fun i j => .bl (decide (i < j))
def dLe : Op2 := dInt2 (fun _ _ => true) fun i j => .bl (decide (i ≤ j))
def dGt : Op2 := dInt2 (fun _ _ => true) fun i j => .bl (decide (j < i))
def dGe : Op2 := dInt2 (fun _ _ => true) fun i j => .bl (decide (j ≤ i))
def dIsN : Op2 := fun a b _ => match b with
  | .non => some (.bl (match a with | .non => true | _ => false))
  | _ => none
def dNotN : Op2 := fun a b _ => match b with
  | .non => some (.bl (match a with | .non => false | _ => true))
  | _ => none
def dNeg : D → Sto → Option D | .int i, _ => some (.int (-i)) | _, _ => none

/-- list + list, whatever may be read as lists -/
def rCatL (K : PySem.W.Frag) : R2 := fun x y H Q => ∃ l b xs zs, x = .ref l ∧ y = .ref b ∧ SqL K H l xs ∧ SqL K H b zs ∧ xs.length + zs.length ≤ sizeLine ∧ ∀ p, H p = none → Q (.ref p) (upd H p (.lst (xs ++ zs)))
theorem op_catL {X : Cx} : OpR X (binaryOp .Add) (rCatL X.K) := by
  intro pins s σ H x y v u Q I rx ry h
  obtain ⟨l, b, xs, zs, rfl, rfl, hH, hB, hz, q⟩ := h
  cases rx
  cases ry
  obtain ⟨vs, r, hl, _⟩ := I.list hH
  obtain ⟨ws, r2, hb, _⟩ := I.list hB
  obtain ⟨⟨cls, dd, data, sl⟩, n, ho, hc, hdd, hd⟩ := id hl
  obtain ⟨⟨cls2, dd2, data2, sl2⟩, n2, ho2, hc2, hdd2, hd2⟩ := id hb
  simp only at hc hd hc2 hd2 hdd hdd2
  subst hc hd hc2 hd2 hdd hdd2
  have e : vs.toArray ++ ws.toArray = (vs ++ ws).toArray := by simp
  refine concat_meets ⟨_, ho, rfl⟩ ⟨_, ho2, rfl⟩ noFill_list_add seq_list_add PySem.F.slot_list_add PySem.F.entry_list_add (PySem.F.args_list_add_2 _ _) (PyProof.Rows.list_addW l b vs.toArray ws.toArray n n2 _ _ sl sl2 (by simp only [List.size_toArray]; rw [← r.length, ← r2.length]; exact hz)) ⟨ho, ho2, ?_⟩
  rw [e]
  exact ⟨.ref _, _, I.lnew (t' := s.toks) (r.append r2) (by rw [List.length_append]; omega), rfl, q _ I.fresh⟩

section
variable {K : PySem.W.Frag} {ct : Tb} {w w' : Wd}
theorem lift_int2 {r : R2} {C : Int → Int → Prop} {c : Int → Int → Bool} {g : Int → Int → V} {g' : Int → Int → D} (hr : ∀ x y H Q, rI C g x y H Q → r x y H Q) (hc : ∀ i j, c i j = true → C i j) (hg : ∀ i j w, RV K ct w (g i j) (g' i j)) : Lift2 K ct r (dInt2 c g') := fun w S x y dx dy d Q st rx ry e q => by
  unfold dInt2 at e
  split at e
  · split at e
    · rename_i hcc
      cases e
      cases rx
      cases ry
      exact hr _ _ _ _ ⟨_, _, rfl, rfl, hc _ _ hcc, q w _ (XT.refl w) st (hg _ _ w)⟩
    · cases e
  · cases e
theorem lift_add : Lift2 K ct (rOr (rI0 fun i j => .int (i + j)) (rOr (fun x y H Q => ∃ i j, x = .str i ∧ y = .str j ∧ i.length + j.length ≤ sizeLine ∧ Q (.str (i ++ j)) H) (rOr (rCatA K) (rCatL K)))) dAdd := by
  refine Lift2.or ?_ (Lift2.or ?_ (Lift2.or ?_ ?_))
  · intro w S x y dx dy d Q st rx ry e q
    unfold dAddI at e
    split at e
    · cases e; cases rx; cases ry
      exact ⟨_, _, rfl, rfl, q w _ (XT.refl w) st .int⟩
    · cases e
  · intro w S x y dx dy d Q st rx ry e q
    unfold dAddS at e
    split at e
    · split at e
      · cases e; cases rx; cases ry
        rename_i h
        exact ⟨_, _, rfl, rfl, h, q w _ (XT.refl w) st .str⟩
      · cases e
    · cases e
  · intro w S x y dx dy d Q st rx ry e q
    unfold dAddT at e
    split at e
    · split at e
      · rename_i hz
        cases e
        cases rx with | @tup a vs _ hta ra => ?_
        cases ry with | @tup b us _ htb rb => ?_
        have ha : SqT K w.H a vs := .of hta
        have hb : SqT K w.H b us := .of htb
        refine ⟨a, b, vs, us, rfl, rfl, ha, hb, by rw [ra.length, rb.length]; exact hz, fun h => ?_, fun _ h => ?_, fun _ _ p hp => ?_⟩
        · subst h
          cases ra
          exact q w _ (XT.refl w) st (.tup htb rb)
        · subst h
          cases rb
          rw [List.append_nil] at q
          exact q w _ (XT.refl w) st (.tup hta ra)
        · obtain ⟨w1, e1, x1, s1, r1⟩ := mk_tup st (ra.append rb) hp
          rw [← e1]
          exact q w1 _ x1 s1 r1
      · cases e
    · cases e
  · intro w S x y dx dy d Q st rx ry e q
    unfold dAddL at e
    split at e
    · rename_i i j hi hj
      split at e
      · rename_i hz
        cases e
        obtain ⟨a, vs, rfl, ha, ra⟩ := st.lst rx hi
        obtain ⟨b, us, rfl, hb, rb⟩ := st.lst ry hj
        refine ⟨a, b, vs, us, rfl, rfl, ha, hb, by rw [ra.length, rb.length]; exact hz, fun p hp => ?_⟩
        obtain ⟨w1, e1, x1, s1, r1⟩ := mk_lst st (ra.append rb) hp
        rw [← e1]
        exact q w1 _ x1 s1 r1
      · cases e
    · cases e
end
section
variable {X : Cx} {ct : Tb} {W : WX} {e a b c : Expr} {es rest : List Expr} {pos : Pos} {ma mb : EM}
theorem me_add (ha : PE X a (tM X.K ct W ma)) (hb : PE X b (tM X.K ct W mb)) : PE X (.BinOp a .Add b pos) (tM X.K ct W (mBin dAdd ma mb)) :=
  me_bin (op_or2 op_add (op_or2 op_add_str (op_or2 op_catA op_catL))) lift_add ha hb
theorem me_sub (ha : PE X a (tM X.K ct W ma)) (hb : PE X b (tM X.K ct W mb)) : PE X (.BinOp a .Sub b pos) (tM X.K ct W (mBin dSub ma mb)) :=
  me_bin op_sub (lift_int2 (C := fun _ _ => True) (fun _ _ _ _ ⟨i, j, h1, h2, _, h3⟩ => ⟨i, j, h1, h2, h3⟩) (fun _ _ _ => trivial) fun _ _ _ => .int) ha hb
theorem me_mul (ha : PE X a (tM X.K ct W ma)) (hb : PE X b (tM X.K ct W mb)) : PE X (.BinOp a .Mult b pos) (tM X.K ct W (mBin dMulI ma mb)) :=
  me_bin op_mulX (lift_int2 (fun _ _ _ _ h => h) (fun _ _ h => by have h := of_decide_eq_true h; exact mulX_of h) fun _ _ _ => .int) ha hb
theorem me_fdiv (ha : PE X a (tM X.K ct W ma)) (hb : PE X b (tM X.K ct W mb)) : PE X (.BinOp a .FloorDiv b pos) (tM X.K ct W (mBin dFDiv ma mb)) :=
  me_bin op_fdivW (lift_int2 (fun _ _ _ _ h => h) (fun _ _ h => by have h := of_decide_eq_true h; exact h) fun _ _ _ => .int) ha hb
theorem me_mod (ha : PE X a (tM X.K ct W ma)) (hb : PE X b (tM X.K ct W mb)) : PE X (.BinOp a .Mod b pos) (tM X.K ct W (mBin dMod ma mb)) :=
  me_bin op_mod (lift_int2 (fun _ _ _ _ h => h) (fun _ _ h => by have h := of_decide_eq_true h; exact h) fun _ _ _ => .int) ha hb
theorem me_pow (ha : PE X a (tM X.K ct W ma)) (hb : PE X b (tM X.K ct W mb)) : PE X (.BinOp a .Pow b pos) (tM X.K ct W (mBin dPow ma mb)) :=
  me_bin op_pow (lift_int2 (fun _ _ _ _ h => h) (fun _ _ h => by have h := of_decide_eq_true h; exact h) fun _ _ _ => .int) ha hb
theorem lift_lt {K : PySem.W.Frag} {ct : Tb} : Lift2 K ct (rI0 fun i j => .bl (decide (i < j))) dLt := lift_int2 (C := fun _ _ => True) (fun _ _ _ _ ⟨i, j, h1, h2, _, h3⟩ => ⟨i, j, h1, h2, h3⟩) (fun _ _ _ => trivial) fun _ _ _ => .bl
theorem lift_le {K : PySem.W.Frag} {ct : Tb} : Lift2 K ct (rI0 fun i j => .bl (decide (i ≤ j))) dLe := lift_int2 (C := fun _ _ => True) (fun _ _ _ _ ⟨i, j, h1, h2, _, h3⟩ => ⟨i, j, h1, h2, h3⟩) (fun _ _ _ => trivial) fun _ _ _ => .bl
theorem lift_gt {K : PySem.W.Frag} {ct : Tb} : Lift2 K ct (rI0 fun i j => .bl (decide (j < i))) dGt := lift_int2 (C := fun _ _ => True) (fun _ _ _ _ ⟨i, j, h1, h2, _, h3⟩ => ⟨i, j, h1, h2, h3⟩) (fun _ _ _ => trivial) fun _ _ _ => .bl
theorem lift_ge {K : PySem.W.Frag} {ct : Tb} : Lift2 K ct (rI0 fun i j => .bl (decide (j ≤ i))) dGe := lift_int2 (C := fun _ _ => True) (fun _ _ _ _ ⟨i, j, h1, h2, _, h3⟩ => ⟨i, j, h1, h2, h3⟩) (fun _ _ _ => trivial) fun _ _ _ => .bl
theorem lift_isN {K : PySem.W.Frag} {ct : Tb} : Lift2 K ct (fun x y H Q => y = .non ∧ Q (.bl (decide (x = .non))) H) dIsN := fun w S x y dx dy d Q st rx ry e q => by
  cases ry with
  | non =>
    refine ⟨rfl, ?_⟩
    cases rx <;> (cases e; exact q w _ (XT.refl w) st .bl)
  | _ => cases e
theorem lift_notN {K : PySem.W.Frag} {ct : Tb} : Lift2 K ct (fun x y H Q => y = .non ∧ Q (.bl (!decide (x = .non))) H) dNotN := fun w S x y dx dy d Q st rx ry e q => by
  cases ry with
  | non =>
    refine ⟨rfl, ?_⟩
    cases rx <;> (cases e; exact q w _ (XT.refl w) st .bl)
  | _ => cases e
theorem me_neg (ha : PE X a (tM X.K ct W ma)) : PE X (.UnaryOp .USub a pos) (tM X.K ct W (mUn dNeg ma)) := me_un un_neg (fun w S x dx d Q st rx e q => by
  cases rx with
  | int => cases e; exact ⟨_, rfl, q w _ (XT.refl w) st .int⟩
  | _ => cases e) ha

/-! ### displays -/
def mTup (n : AM) : EM := fun en S => (n en S).bind fun xs S1 => if xs.length ≤ sizeLine then .ok (.tup xs) S1 else .bad
/-- a new list -/
def lDis (n : AM) : AM := fun en S => (n en S).bind fun xs S1 => if xs.length ≤ sizeLine then .ok xs S1 else .bad
theorem me_tup {x1} {n : AM} (h : PA X es (tMA X.K ct W n)) : PE X (.Tuple es x1 pos) (tM X.K ct W (mTup n)) := pe_weak (pe_tup h) fun σ H Q h => by
  obtain ⟨w, S, en, rfl, st, ev, h⟩ := h
  refine tG_bind st ev h fun ds S1 w1 vs e1 st1 ev1 rx h1 => ?_
  split at h1
  · rename_i hz
    refine ⟨by rw [RVs.length rx]; exact hz, fun p hp => ?_⟩
    obtain ⟨w2, e2, x2, s2, r2⟩ := mk_tup st1 rx hp
    rw [← e2]
    exact h1 w2 _ x2 s2 r2
  · exact h1.elim
theorem ml_lst {n : AM} (h : PA X es (tMA X.K ct W n)) : PE X (.List es pos) (tML X.K ct W (lDis n)) := pe_weak (pe_lst h) fun σ H Q h => by
  obtain ⟨w, S, en, rfl, st, ev, h⟩ := h
  refine tG_bind st ev h fun ds S1 w1 vs e1 st1 ev1 rx h1 => ?_
  split at h1
  · rename_i hz
    refine ⟨by rw [RVs.length rx]; exact hz, fun p hp => ?_⟩
    obtain ⟨w2, e2, x2, s2, r2⟩ := mk_own st1 rx hp
    rw [← e2]
    exact h1 w2 _ x2 s2 r2
  · exact h1.elim
/-- a new list that is never changed: it is its items -/
def mFrz (n : AM) : EM := fun en S => (n en S).bind fun xs S1 => .ok (.lst xs) S1
def mNew (n : AM) : EM := fun en S => (n en S).bind fun xs S1 => .ok (.ref S1.length) (S1 ++ [.lst xs])
theorem me_frz {n : AM} (h : PE X e (tML X.K ct W n)) : PE X e (tM X.K ct W (mFrz n)) := pe_weak h fun σ H Q h => by
  obtain ⟨w, S, en, rfl, st, ev, h⟩ := h
  refine tG_bind0 st ev h fun ds S1 w1 v e1 st1 ev1 rx h1 => ?_
  obtain ⟨w2, e2, x2, s2, r2⟩ := own_frz e1 st1 rx
  rw [← e2]
  exact h1 w2 _ x2 s2 r2
theorem me_new {n : AM} (h : PE X e (tML X.K ct W n)) : PE X e (tM X.K ct W (mNew n)) := pe_weak h fun σ H Q h => by
  obtain ⟨w, S, en, rfl, st, ev, h⟩ := h
  refine tG_bind0 st ev h fun ds S1 w1 v e1 st1 ev1 rx h1 => ?_
  obtain ⟨w2, e2, x2, s2, r2⟩ := own_new e1 st1 rx
  rw [← e2]
  exact h1 w2 _ x2 s2 r2
end
end Mi
/-! The mirror layer: statements, loops, comprehensions. -/
namespace Mi
open PySem L2

inductive RSt where
  | nx (en : En) (S : Sto) | rt (d : D) (S : Sto) | bk (en : En) (S : Sto) | ct (en : En) (S : Sto)
  | exc (x : Exn) (en : En) (S : Sto) | bad
abbrev SM := En → Sto → RSt
/-- an expression, then what follows in the block -/
def Rs.then {α : Type} (r : Rs α) (en : En) (k : α → Sto → RSt) : RSt := match r with
  | .ok a S => k a S
  | .exc x S => .exc x en S
  | .bad => .bad
def RSt.seq (r : RSt) (k : En → Sto → RSt) : RSt := match r with
  | .nx en S => k en S
  | r => r

section
variable {K : PySem.W.Frag} (ct : Tb)
def WpS (K : PySem.W.Frag) (W : WX) (D : Ends) (w : Wd) (r : RSt) : Prop := match r with
  | .nx en S => ∀ w' σ', XT K w w' → SR K ct w' S → RE K ct w' σ' en → D.nx σ' w'.H
  | .bk en S => ∀ w' σ', XT K w w' → SR K ct w' S → RE K ct w' σ' en → D.bk σ' w'.H
  | .ct en S => ∀ w' σ', XT K w w' → SR K ct w' S → RE K ct w' σ' en → D.ct σ' w'.H
  | .rt d S => ∀ w' v, XT K w w' → SR K ct w' S → RV K ct w' v d → D.rt v w'.H
  | .exc x en S => ∀ w' σ' cls dd, XT K w w' → SR K ct w' S → RE K ct w' σ' en → RX K ct w' x cls dd → W cls dd σ' w'.H
  | .bad => False
def tS (K : PySem.W.Frag) (W : WX) (m : SM) : TS := fun D σ H => ∃ w S en, w.H = H ∧ SR K ct w S ∧ RE K ct w σ en ∧ WpS ct K W D w (m en S)
end
section
variable {K : PySem.W.Frag} {ct : Tb} {W : WX} {w w' : Wd} {D : Ends}
theorem WpS.mono {r : RSt} (e : XT K w w') (h : WpS ct K W D w r) : WpS ct K W D w' r := by
  cases r with
  | nx en S => exact fun w2 σ' x => h w2 σ' (e.trans x)
  | bk en S => exact fun w2 σ' x => h w2 σ' (e.trans x)
  | ct en S => exact fun w2 σ' x => h w2 σ' (e.trans x)
  | rt d S => exact fun w2 v x => h w2 v (e.trans x)
  | exc x en S => exact fun w2 σ' c dd x => h w2 σ' c dd (e.trans x)
  | bad => exact h
/-- an expression within a statement -/
theorem tG_then {α β : Type} {rel : Rl K α β} {σ : L2.St} {en : En} {S : Sto} {ma : En → Sto → Rs α} {k : α → Sto → RSt} {Q' : β → Hp → Prop}
    (st : SR K ct w S) (ev : RE K ct w σ en) (h : WpS ct K W D w ((ma en S).then en k))
    (hk : ∀ d S1 w' v, XT K w w' → SR K ct w' S1 → RE K ct w' σ en → rel.r w w' v d → WpS ct K W D w' (k d S1) → Q' v w'.H) : tG ct rel W ma σ w.H Q' := by
  refine ⟨w, S, en, rfl, st, ev, ?_⟩
  cases e : ma en S with
  | ok d S1 =>
    rw [e] at h
    exact fun w' v x s r => hk d S1 w' v x s (ev.mono x) r (h.mono x)
  | exc x S1 =>
    rw [e] at h
    exact fun w' c dd x s r => h w' σ c dd x s (ev.mono x) r
  | bad =>
    rw [e] at h
    exact h
end
section
variable {X : Cx} {ct : Tb} {W : WX} {e a b c : Expr} {st : Stmt} {rest body els : List Stmt} {pos : Pos}
theorem ps_weak {t t' : TS} (h : PS X st t) (i : ∀ D σ H, t' D σ H → t D σ H) : PS X st t' := ⟨fun pins s σ H D I q => h.run pins s σ H D I (i D σ H q)⟩
theorem pss_weak {t t' : TS} (h : PSs X rest t) (i : ∀ D σ H, t' D σ H → t D σ H) : PSs X rest t' := ⟨fun pins s σ H D I q => h.run pins s σ H D I (i D σ H q)⟩
def sNil : SM := fun en S => .nx en S
def sSeq (a b : SM) : SM := fun en S => (a en S).seq b
def sRet (m : EM) : SM := fun en S => (m en S).then en fun d S => .rt d S
def sRetN : SM := fun _ S => .rt .non S
def sExp (m : EM) : SM := fun en S => (m en S).then en fun _ S => .nx en S
def sIf (t : TM) (a b : SM) : SM := fun en S => (t en S).then en fun c S => if c = true then a en S else b en S
def sBad : SM := fun _ _ => .bad
theorem ms_nil : PSs X [] (tS ct X.K W sNil) := pss_weak pss_nil fun D σ H h => by
  obtain ⟨w, S, en, rfl, st, ev, h⟩ := h
  exact h w σ (XT.refl w) st ev
theorem ms_pass : PS X (.Pass pos) (tS ct X.K W sNil) := ps_weak ps_pass fun D σ H h => by
  obtain ⟨w, S, en, rfl, st, ev, h⟩ := h
  exact h w σ (XT.refl w) st ev
def sBrk : SM := fun en S => .bk en S
def sCnt : SM := fun en S => .ct en S
theorem ms_break : PS X (.Break pos) (tS ct X.K W sBrk) := ps_weak ps_break fun D σ H h => by
  obtain ⟨w, S, en, rfl, st, ev, h⟩ := h
  exact h w σ (XT.refl w) st ev
theorem ms_continue : PS X (.Continue pos) (tS ct X.K W sCnt) := ps_weak ps_continue fun D σ H h => by
  obtain ⟨w, S, en, rfl, st, ev, h⟩ := h
  exact h w σ (XT.refl w) st ev
theorem ms_doc {x j pos pos'} : PS X (.Expr (.Constant (.str x) j pos) pos') (tS ct X.K W sNil) := ps_weak ps_doc fun D σ H h => by
  obtain ⟨w, S, en, rfl, st, ev, h⟩ := h
  exact h w σ (XT.refl w) st ev
theorem ms_never : PS X st (tS ct X.K W sBad) := ps_weak ps_never fun D σ H h => by
  obtain ⟨w, S, en, rfl, st, ev, h⟩ := h
  exact h
theorem mss_never : PSs X rest (tS ct X.K W sBad) := pss_weak pss_never fun D σ H h => by
  obtain ⟨w, S, en, rfl, st, ev, h⟩ := h
  exact h
theorem ms_cons {m n : SM} (h1 : PS X st (tS ct X.K W m)) (h2 : PSs X rest (tS ct X.K W n)) : PSs X (st :: rest) (tS ct X.K W (sSeq m n)) := pss_weak (pss_cons h1 h2) fun D σ H h => by
  obtain ⟨w, S, en, rfl, sr, ev, h⟩ := h
  refine ⟨w, S, en, rfl, sr, ev, ?_⟩
  unfold sSeq at h
  cases e : m en S with
  | nx en' S' =>
    rw [e] at h
    exact fun w' σ' x s r => ⟨w', S', en', rfl, s, r, WpS.mono x h⟩
  | _ => rw [e] at h; exact h
theorem ms_one {m : SM} (h1 : PS X st (tS ct X.K W m)) : PSs X [st] (tS ct X.K W m) := pss_one h1
theorem ms_ret {m : EM} (h : PE X e (tM X.K ct W m)) : PS X (.Return (some e) pos) (tS ct X.K W (sRet m)) := ps_weak (ps_ret h) fun D σ H h => by
  obtain ⟨w, S, en, rfl, st, ev, h⟩ := h
  exact tG_then st ev h fun d S1 w1 v x s _ r q => q w1 v (XT.refl w1) s r
theorem ms_retN : PS X (.Return none pos) (tS ct X.K W sRetN) := ps_weak ps_retN fun D σ H h => by
  obtain ⟨w, S, en, rfl, st, ev, h⟩ := h
  exact h w .non (XT.refl w) st .non
theorem ms_expr {m : EM} (h : PE X e (tM X.K ct W m)) (hs : swapsWith e none pos.line X.env = pure false := by rfl) : PS X (.Expr e pos) (tS ct X.K W (sExp m)) := ps_weak (ps_expr h hs) fun D σ H h => by
  obtain ⟨w, S, en, rfl, st, ev, h⟩ := h
  exact tG_then st ev h fun d S1 w1 v x s ev1 r q => q w1 σ (XT.refl w1) s ev1
theorem ms_if {t : TM} {m n : SM} (hc : PT X c (tMT X.K ct W t)) (ha : PSs X body (tS ct X.K W m)) (hb : PSs X els (tS ct X.K W n)) : PS X (.If c body els pos) (tS ct X.K W (sIf t m n)) := ps_weak (ps_if hc ha hb) fun D σ H h => by
  obtain ⟨w, S, en, rfl, st, ev, h⟩ := h
  refine tG_then st ev h fun d S1 w1 v x s ev1 r q => ?_
  cases r
  cases d with
  | true => exact ⟨w1, S1, en, rfl, s, ev1, q⟩
  | false => exact ⟨w1, S1, en, rfl, s, ev1, q⟩
end

/-! ### targets -/
inductive Tg where
  | nm (i : Nat) | tp (is : List Nat)
def Tg.sl : Tg → List Nat
  | .nm i => [i]
  | .tp is => is
def asSeq (S : Sto) (d : D) : Option (List D) := match asT d with
  | some ds => some ds
  | none => asL S d
def setAll (en : En) : List Nat → List D → Option En
  | [], [] => some en
  | i :: is, d :: ds => setAll (en.set i (some d)) is ds
  | _, _ => none
def asgn (t : Tg) (d : D) (en : En) (S : Sto) : Option En := match t with
  | .nm i => some (en.set i (some d))
  | .tp is => match asSeq S d with
    | some ds => setAll en is ds
    | none => none
theorem wipe_get (τ : L2.St) (us : List Nat) (j : Nat) : (wipe τ us)[j]? = if j ∈ us ∧ j < τ.length then some none else τ[j]? := by
  induction us with
  | nil => simp [wipe]
  | cons u us ih =>
    unfold wipe
    by_cases hj : u = j
    · subst hj
      by_cases hl : u < τ.length
      · rw [List.getElem?_set_self (by rw [wipe_length]; exact hl)]
        simp [hl]
      · rw [List.getElem?_eq_none (by simp [wipe_length]; omega), List.getElem?_eq_none (by omega)]
        simp [hl]
    · rw [List.getElem?_set_ne hj, ih]
      simp [Ne.symm hj]
theorem wipe_set {σ : L2.St} {i : Nat} {x : Option V} {vs : List Nat} (h : i ∈ vs) : wipe (σ.set i x) vs = wipe σ vs := by
  apply List.ext_getElem?
  intro j
  rw [wipe_get, wipe_get, List.length_set]
  by_cases hj : j ∈ vs ∧ j < σ.length
  · rw [if_pos hj, if_pos hj]
  · rw [if_neg hj, if_neg hj]
    by_cases hji : i = j
    · subst hji
      have hl : ¬ i < σ.length := fun z => hj ⟨h, z⟩
      rw [List.getElem?_eq_none (by simpa using hl), List.getElem?_eq_none (by omega)]
    · rw [List.getElem?_set_ne hji]
theorem wipe_wipe (σ : L2.St) (vs : List Nat) : wipe (wipe σ vs) vs = wipe σ vs := by
  apply List.ext_getElem?
  intro j
  rw [wipe_get, wipe_get, wipe_length]
  by_cases hj : j ∈ vs ∧ j < σ.length
  · rw [if_pos hj, if_pos hj]
  · rw [if_neg hj, if_neg hj]
section
variable {K : PySem.W.Frag} {ct : Tb} {w w' : Wd}
/-- a target's lift -/
def LiftG (K : PySem.W.Frag) (ct : Tb) (t : TG) (g : Tg) : Prop := ∀ (w : Wd) (S : Sto) (v : V) (d : D) (σ : L2.St) (en en' : En) (Q : L2.St → Hp → Prop), SR K ct w S → RV K ct w v d → RE K ct w σ en → asgn g d en S = some en' →
  (∀ σ', RE K ct w σ' en' → (∀ vs : List Nat, (∀ i ∈ g.sl, i ∈ vs) → wipe σ' vs = wipe σ vs) → Q σ' w.H) → t v σ w.H Q
theorem lg_name {i : Nat} : LiftG K ct (gName i) (.nm i) := fun w S v d σ en en' Q st r ev e q => by
  cases e
  exact q _ (ev.set r) fun vs h => wipe_set (h i (List.mem_singleton.mpr rfl))
/-- names one by one -/
def LiftGs (K : PySem.W.Frag) (ct : Tb) (t : TGs) (is : List Nat) : Prop := ∀ (w : Wd) (vs : List V) (ds : List D) (σ : L2.St) (en en' : En) (Q : L2.St → Hp → Prop), RVs K ct w vs ds → RE K ct w σ en → setAll en is ds = some en' →
  (∀ σ', RE K ct w σ' en' → (∀ vs : List Nat, (∀ i ∈ is, i ∈ vs) → wipe σ' vs = wipe σ vs) → Q σ' w.H) → t vs σ w.H Q
theorem lgs_nil : LiftGs K ct gNil [] := fun w vs ds σ en en' Q r ev e q => by
  cases r with
  | nil => cases e; exact ⟨rfl, q σ ev fun _ _ => rfl⟩
  | cons _ _ => cases e
theorem lgs_cons {i : Nat} {is : List Nat} {t : TGs} (h : LiftGs K ct t is) : LiftGs K ct (gCons (gName i) t) (i :: is) := fun w vs ds σ en en' Q r ev e q => by
  cases r with
  | nil => cases e
  | cons rv rs =>
    refine ⟨_, _, rfl, h w _ _ _ _ en' Q rs (ev.set rv) e fun σ' ev' hw => q σ' ev' fun us hu => ?_⟩
    rw [hw us fun j hj => hu j (List.mem_cons_of_mem _ hj), wipe_set (hu i List.mem_cons_self)]
theorem setAll_len : ∀ {is : List Nat} {ds : List D} {en en' : En}, setAll en is ds = some en' → ds.length = is.length
  | [], [], _, _, _ => rfl
  | i :: is, d :: ds, en, en', h => by simp [setAll_len (is := is) (ds := ds) h]
  | [], _ :: _, _, _, h => by cases h
  | _ :: _, [], _, _, h => by cases h
def gOr (t u : TG) : TG := fun v σ H Q => t v σ H Q ∨ u v σ H Q
theorem pg_or {X : Cx} {tg : Expr} {t u : TG} (h : PG X tg t) (h' : PG X tg u) : PG X tg (gOr t u) := ⟨fun pins s σ H v u Q I r hw => hw.elim (h.run pins s σ H v u Q I r) (h'.run pins s σ H v u Q I r)⟩
theorem lg_tup {is : List Nat} {t : TGs} {n : Nat} (h : LiftGs K ct t is) (hn : is.length = n) : LiftG K ct (gOr (gTup K n t) (gLst K n t)) (.tp is) := fun w S v d σ en en' Q st r ev e q => by
  unfold asgn asSeq at e
  dsimp only at e
  cases h1 : asT d with
  | some ds =>
    rw [h1] at e
    obtain ⟨a, vs, rfl, ha, rs⟩ := r.tupD h1
    exact .inl ⟨a, vs, rfl, ha, by rw [rs.length, setAll_len e, hn], h w _ _ _ _ en' Q rs ev e q⟩
  | none =>
    rw [h1] at e
    dsimp only at e
    cases h2 : asL S d with
    | none => rw [h2] at e; cases e
    | some ds =>
      rw [h2] at e
      obtain ⟨a, vs, rfl, ha, rs⟩ := st.lst r h2
      exact .inr ⟨a, vs, rfl, ha, by rw [rs.length, setAll_len e, hn], h w _ _ _ _ en' Q rs ev e q⟩
end
/-- a target with its lift -/
structure PGm (X : Cx) (ct : Tb) (tg : Expr) (g : Tg) : Prop where
  ex : ∃ t, PG X tg t ∧ LiftG X.K ct t g
structure PGms (X : Cx) (ct : Tb) (ts : List Expr) (is : List Nat) : Prop where
  ex : ∃ t, PGs X ts t ∧ LiftGs X.K ct t is
section
variable {X : Cx} {ct : Tb} {W : WX} {e tg : Expr} {pos : Pos}
theorem mg_name {i : Nat} {x : Str} (hN : X.N.Nodup) (hi : X.N[i]? = some x) (hx : Loc X.env.scope x) (hf : X.fn x = true ∨ X.env.scope.names.lookup x = some .local := by first | exact .inl rfl | exact .inr rfl | assumption) : PGm X ct (.Name x pos) (.nm i) := ⟨gName i, pg_name hN hi hx hf, lg_name⟩
theorem mgs_nil : PGms X ct [] [] := ⟨gNil, pgs_nil, lgs_nil⟩
theorem mgs_cons {i : Nat} {x : Str} {es : List Expr} {is : List Nat} (hN : X.N.Nodup) (hi : X.N[i]? = some x) (hx : Loc X.env.scope x) (h : PGms X ct es is) (hf : X.fn x = true ∨ X.env.scope.names.lookup x = some .local := by first | exact .inl rfl | exact .inr rfl | assumption)
    (hs : (assignEach (.Name x pos :: es) X.env).map (·.2) = assign (.Name x pos) X.env :: (assignEach es X.env).map (·.2) := by rfl) : PGms X ct (.Name x pos :: es) (i :: is) := by
  obtain ⟨t, h1, h2⟩ := h.ex
  exact ⟨gCons (gName i) t, pgs_cons (pg_name hN hi hx hf) h1 hs, lgs_cons h2⟩
theorem mg_tup {es : List Expr} {k n : Nat} {is : List Nat} (hc : X.calm = true) (h : PGms X ct es is) (hl : is.length = n) (hn : (assignEach es X.env).length = n := by rfl) (hst : (assignEach es X.env).findIdx? (·.1) = none := by rfl) : PGm X ct (.Tuple es k pos) (.tp is) := by
  obtain ⟨t, h1, h2⟩ := h.ex
  exact ⟨_, pg_or (pg_tup hc h1 hn hst) (pg_lst hc h1 hn hst), lg_tup h2 hl⟩
end
/-! ### assignments -/
def sAsg (g : Tg) (m : EM) : SM := fun en S => (m en S).then en fun d S1 => match asgn g d en S1 with
  | some en1 => .nx en1 S1
  | none => .bad
section
variable {X : Cx} {ct : Tb} {W : WX} {e tg : Expr} {pos : Pos} {st : Stmt}
theorem im_asg {te : TE} {t : TG} {g : Tg} {m : EM} (i : ∀ σ H Q, tM X.K ct W m σ H Q → te σ H Q) (hg : LiftG X.K ct t g) : ∀ D σ H, tS ct X.K W (sAsg g m) D σ H → tAsg te t D σ H := fun D σ H h => by
  obtain ⟨w, S, en, rfl, st, ev, h⟩ := h
  refine i _ _ _ (tG_then st ev h fun d S1 w1 v x s ev1 r q => ?_)
  cases e : asgn g d en S1 with
  | none => rw [e] at q; exact q.elim
  | some en1 =>
    rw [e] at q
    exact hg w1 S1 v d σ en en1 _ s r ev1 e fun σ' ev2 _ => q w1 σ' (XT.refl w1) s ev2
theorem ms_asg {g : Tg} {m : EM} (hg : PGm X ct tg g) (he : PE X e (tM X.K ct W m)) (hs : swapsWithSole [tg] e pos.line X.env = pure false := by rfl) (hw : swappedStores [tg] e X.env = pure none := by rfl)
    (h3 : (assignEach [tg] X.env).map (·.2) = [assign tg X.env] := by rfl) : PS X (.Assign [tg] e pos) (tS ct X.K W (sAsg g m)) := by
  obtain ⟨t, h1, h2⟩ := hg.ex
  exact ps_weak (ps_asg he h1 hs hw h3) (im_asg (fun _ _ _ h => h) h2)
end

/-! ### what is walked -/
abbrev IM := En → Sto → Rs (List D × (Sto → Bool))
/-- an iterator that goes over these, as long as the store is so -/
def ItOk (K : PySem.W.Frag) (ct : Tb) (w0 : Wd) (J : It) (items : List D) (chk : Sto → Bool) : Prop := ∃ G Y, Walk J items.length G Y ∧ (∀ w S, XT K w0 w → SR K ct w S → chk S = true → G w.H) ∧
  ∀ w S i x H', XT K w0 w → SR K ct w S → chk S = true → i < items.length → Y i w.H x H' → ∃ w' d, w'.H = H' ∧ XT K w w' ∧ SR K ct w' S ∧ items[i]? = some d ∧ RV K ct w' x d
def LI (K : PySem.W.Frag) (ct : Tb) : Rl K (List D × (Sto → Bool)) It := ⟨fun _ w J p => ItOk K ct w J p.1 p.2, fun _ _ _ _ _ _ _ h => h⟩
abbrev tMI (K : PySem.W.Frag) (ct : Tb) (W : WX) (m : IM) : TI := tG ct (LI K ct) W m
def forL (chk : Sto → Bool) (g : Tg) (body : SM) : List D → En → Sto → RSt
  | [], en, S => if chk S = true then .nx en S else .bad
  | d :: ds, en, S => if chk S = true then match asgn g d en S with
    | none => .bad
    | some en1 => match body en1 S with
      | .nx en2 S2 => forL chk g body ds en2 S2
      | .ct en2 S2 => forL chk g body ds en2 S2
      | .bk en2 S2 => .nx en2 S2
      | .rt d S2 => .rt d S2
      | .exc x en2 S2 => .exc x en2 S2
      | .bad => .bad
    else .bad
def sFor (mi : IM) (g : Tg) (body : SM) : SM := fun en S => (mi en S).then en fun p S1 => forL p.2 g body p.1 en S1
section
variable {X : Cx} {ct : Tb} {W : WX} {tg iter : Expr} {body : List Stmt} {pos : Pos}
theorem ms_for {mi : IM} {g : Tg} {m : SM} (hp : PassesOwn (model X.prog X.w) X.A X.env X.xe) (hc : X.calm = true) (hi : PI X tg iter (tMI X.K ct W mi)) (hg : PGm X ct tg g) (hb : PSs X body (tS ct X.K W m)) (hs : ∀ x, foldedSetIterable iter X.env x = pure x := by intro _; rfl) : PS X (.For tg iter body [] pos) (tS ct X.K W (sFor mi g m)) := by
  obtain ⟨t, h1, h2⟩ := hg.ex
  refine ps_weak (ps_for hp hc hi h1 hb hs) fun D σ H h => ?_
  obtain ⟨w, S, en, rfl, st, ev, h⟩ := h
  refine tG_then st ev h fun p S1 w1 J x s ev1 r q => ?_
  obtain ⟨items, chk⟩ := p
  have r : ItOk X.K ct w1 J items chk := r
  have q : WpS ct X.K W D w1 (forL chk g m items en S1) := q
  obtain ⟨G, Y, wk, hG, hY⟩ := r
  refine for_it wk (fun i σ H => ∃ w2 S2 en2, w2.H = H ∧ XT X.K w1 w2 ∧ SR X.K ct w2 S2 ∧ RE X.K ct w2 σ en2 ∧ WpS ct X.K W D w2 (forL chk g m (items.drop i) en2 S2)) ⟨w1, S1, en, rfl, XT.refl w1, s, ev1, q⟩ (fun i σ H hi h => ?_) (fun i x σ H H' hi h y => ?_) (fun σ H h => ?_)
  · obtain ⟨w2, S2, en2, rfl, x2, s2, ev2, q2⟩ := h
    refine hG w2 S2 x2 s2 ?_
    cases e : chk S2 with
    | true => rfl
    | false =>
      cases hd : items.drop i with
      | nil => rw [hd] at q2; unfold forL at q2; rw [e] at q2; exact q2.elim
      | cons d ds => rw [hd] at q2; unfold forL at q2; rw [e] at q2; exact q2.elim
  · obtain ⟨w2, S2, en2, rfl, x2, s2, ev2, q2⟩ := h
    have hdr : items.drop i = items[i] :: items.drop (i + 1) := List.drop_eq_getElem_cons hi
    rw [hdr] at q2
    unfold forL at q2
    split at q2
    · rename_i hchk
      obtain ⟨w3, d, e3, x3, s3, hd, r3⟩ := hY w2 S2 i x H' x2 s2 hchk hi y
      rw [List.getElem?_eq_getElem hi] at hd
      cases hd
      rw [← e3]
      split at q2
      · exact q2.elim
      · rename_i en3 he
        have ev3 := ev2.mono x3
        refine h2 w3 S2 x _ σ en2 en3 _ s3 r3 ev3 he fun σ' ev4 _ => ?_
        refine ⟨w3, S2, en3, rfl, s3, ev4, ?_⟩
        cases eb : m en3 S2 with
        | nx en4 S4 =>
          rw [eb] at q2
          exact fun w5 σ5 x5 s5 ev5 => ⟨w5, S4, en4, rfl, (x2.trans x3).trans x5, s5, ev5, WpS.mono (x3.trans x5) q2⟩
        | ct en4 S4 =>
          rw [eb] at q2
          exact fun w5 σ5 x5 s5 ev5 => ⟨w5, S4, en4, rfl, (x2.trans x3).trans x5, s5, ev5, WpS.mono (x3.trans x5) q2⟩
        | bk en4 S4 =>
          rw [eb] at q2
          exact fun w5 σ5 x5 s5 ev5 => q2 w5 σ5 (x3.trans x5) s5 ev5
        | rt d4 S4 =>
          rw [eb] at q2
          exact fun w5 v5 x5 s5 r5 => q2 w5 v5 (x3.trans x5) s5 r5
        | exc x4 en4 S4 =>
          rw [eb] at q2
          exact fun w5 σ5 c dd x5 s5 ev5 r5 => q2 w5 σ5 c dd (x3.trans x5) s5 ev5 r5
        | bad =>
          rw [eb] at q2
          exact q2
    · exact q2.elim
  · obtain ⟨w2, S2, en2, rfl, x2, s2, ev2, q2⟩ := h
    rw [List.drop_length] at q2
    unfold forL at q2
    split at q2
    · exact q2 w2 σ (XT.refl w2) s2 ev2
    · exact q2.elim
end

/-! ### comprehensions -/
def wF : WX := fun _ _ _ _ => False
def wipeD (en : En) : List Nat → En
  | [] => en
  | v :: vs => (wipeD en vs).set v none
def compL (chk : Sto → Bool) (g : Tg) (t : TM) (el : EM) (en : En) : List D → List D → Sto → Rs (List D)
  | [], acc, S => if chk S = true then .ok acc S else .bad
  | d :: ds, acc, S => if chk S = true then match asgn g d en S with
    | none => .bad
    | some en1 => match t en1 S with
      | .ok c S2 => if c = true then match el en1 S2 with
        | .ok y S3 => if acc.length < sizeLine then compL chk g t el en ds (acc ++ [y]) S3 else .bad
        | _ => .bad
        else compL chk g t el en ds acc S2
      | _ => .bad
    else .bad
def lComp (mi : IM) (g : Tg) (t : TM) (el : EM) (vs : List Nat) : AM := fun en S => (mi en S).bind fun p S1 => compL p.2 g t el (wipeD en vs) p.1 [] S1
def mYes : TM := fun _ S => .ok true S
section
variable {K : PySem.W.Frag} {ct : Tb} {w w' : Wd}
theorem RE.wipe {σ : L2.St} {en : En} : ∀ {vs : List Nat}, RE K ct w σ en → RE K ct w (L2.wipe σ vs) (wipeD en vs)
  | [], h => h
  | v :: vs, h => by
    have h := RE.wipe (vs := vs) h
    unfold L2.wipe wipeD
    refine ⟨by simpa using h.1, fun j d' q => ?_⟩
    by_cases hj : v = j
    · subst hj
      by_cases hl : v < (wipeD en vs).length
      · rw [List.getElem?_set_self hl] at q; cases q
      · rw [List.getElem?_eq_none (by simpa using hl)] at q; cases q
    · rw [List.getElem?_set_ne hj] at q ⊢
      exact h.2 j d' q
theorem RE.len {σ : L2.St} {en : En} (h : RE K ct w σ en) : σ.length = en.length := h.1
end
section
variable {X : Cx} {ct : Tb} {W : WX}
theorem im_comp {wi : TI} {t : TG} {tt : TT} {te : TE} {vs : List Nat} {mi : IM} {g : Tg} {m : TM} {n : EM} (iI : ∀ σ H Q, tMI X.K ct W mi σ H Q → wi σ H Q) (hg : LiftG X.K ct t g) (hsl : ∀ i ∈ g.sl, i ∈ vs)
    (iT : ∀ σ H Q, tMT X.K ct wF m σ H Q → tt σ H Q) (iE : ∀ σ H Q, tM X.K ct wF n σ H Q → te σ H Q) : ∀ σ H Q, tML X.K ct W (lComp mi g m n vs) σ H Q → tLc wi t tt te vs σ H Q := fun σ H Q h => by
  obtain ⟨w, S, en, rfl, st, ev, h⟩ := h
  refine iI _ _ _ (tG_bind0 st ev h fun p S1 w1 J x s ev1 r q => ?_)
  obtain ⟨items, chk⟩ := p
  have r : ItOk X.K ct w1 J items chk := r
  have q : Wp ct (LL X.K ct) W σ w (compL chk g m n (wipeD en vs) items [] S1) Q := q
  obtain ⟨G, Y, wk, hG, hY⟩ := r
  intro D hD
  have ow : Own w1 (w1.put D (.lst [])) D := by
    obtain ⟨w', e1, e2, e3, a, us, e4, e5, e6, e7⟩ := mk_own (vs := []) (ds := []) s .nil hD
    cases e4
    exact ⟨hD, (fun f => by obtain ⟨o, e⟩ := s.fin D f; rw [hD] at e; cases e), (fun f => by obtain ⟨o, e⟩ := s.fρ D f; rw [hD] at e; cases e), (fun f => by obtain ⟨o, e⟩ := s.fP D f; rw [hD] at e; cases e)⟩
  refine lc_it wk (fun i H => ∃ w2 S2 acc va, w2.H = H ∧ XT X.K w1 w2 ∧ SR X.K ct w2 S2 ∧ w2.H D = some (.lst va) ∧ RVs X.K ct w2 va acc ∧ Own w1 w2 D ∧ Wp ct (LL X.K ct) W σ w (compL chk g m n (wipeD en vs) (items.drop i) acc S2) Q)
    ⟨w1.put D (.lst []), S1, [], [], rfl, XT.new hD, s.new hD, upd_same, .nil, ow, q⟩ (fun i H hi h => ?_) (fun i y H H' hi h hy => ?_) (fun H h => ?_)
  · obtain ⟨w2, S2, acc, va, rfl, x2, s2, hv, rv, ow2, q2⟩ := h
    refine hG w2 S2 x2 s2 ?_
    cases e : chk S2 with
    | true => rfl
    | false =>
      cases hd : items.drop i with
      | nil => rw [hd] at q2; unfold compL at q2; rw [e] at q2; exact q2.elim
      | cons d ds => rw [hd] at q2; unfold compL at q2; rw [e] at q2; exact q2.elim
  · obtain ⟨w2, S2, acc, va, rfl, x2, s2, hv, rv, ow2, q2⟩ := h
    have hdr : items.drop i = items[i] :: items.drop (i + 1) := List.drop_eq_getElem_cons hi
    rw [hdr] at q2
    unfold compL at q2
    split at q2
    · rename_i hchk
      obtain ⟨w3, d, e3, x3, s3, hd, r3⟩ := hY w2 S2 i y H' x2 s2 hchk hi hy
      rw [List.getElem?_eq_getElem hi] at hd
      cases hd
      rw [← e3]
      have ow3 := ow2.mono hv x3
      have hv3 := x3.keep D _ hv ow2.nρ
      split at q2
      · exact q2.elim
      · rename_i en3 he
        refine hg w3 S2 y _ (L2.wipe σ vs) (wipeD en vs) en3 _ s3 r3 ((ev1.mono (x2.trans x3)).wipe) he fun σ' ev4 hw => ?_
        refine ⟨?_, iT _ _ _ ⟨w3, S2, en3, rfl, s3, ev4, ?_⟩⟩
        · rw [hw vs hsl]
          exact wipe_wipe σ vs
        · cases et : m en3 S2 with
          | bad => rw [et] at q2; exact q2.elim
          | exc _ _ => rw [et] at q2; exact q2.elim
          | ok c S4 =>
            rw [et] at q2
            intro w4 c' x4 s4 ec
            have ec : c' = c := ec
            subst ec
            have ow4 := ow3.mono hv3 x4
            have hv4 := x4.keep D _ hv3 ow3.nρ
            cases c' with
            | false => exact ⟨w4, S4, acc, va, rfl, (x2.trans x3).trans x4, s4, hv4, rv.mono (x3.trans x4), ow4, q2⟩
            | true =>
              refine iE _ _ _ ⟨w4, S4, en3, rfl, s4, ev4.mono x4, ?_⟩
              dsimp only at q2
              rw [if_pos rfl] at q2
              cases ee : n en3 S4 with
              | bad => rw [ee] at q2; exact q2.elim
              | exc _ _ => rw [ee] at q2; exact q2.elim
              | ok z S5 =>
                rw [ee] at q2
                intro w5 z' x5 s5 rz
                have ow5 := ow4.mono hv4 x5
                have hv5 := x5.keep D _ hv4 ow4.nρ
                dsimp only at q2
                split at q2
                · rename_i hz
                  have hp : ∀ u, w5.H D = some u → ∀ q : List V, u ≠ .tup q ∧ ∀ ob, u ≠ .frz ob (.tup q) := fun u e q => by
                    rw [hv5] at e
                    cases e
                    exact ⟨nofun, fun _ => nofun⟩
                  refine ⟨va, hv5, by rw [rv.length]; exact hz, w5.put D (.lst (va ++ [z'])), S5, acc ++ [z], va ++ [z'], rfl, ?_, s5.put ow5.nF ow5.nρ ow5.nP hp, upd_same, ?_, ⟨ow5.free, ow5.nF, ow5.nρ, ow5.nP⟩, q2⟩
                  · exact XT.put (((x2.trans x3).trans x4).trans x5) ow5 hp
                  · exact RVs.imp (kp_put ow5.nF hp) ((rv.mono ((x3.trans x4).trans x5)).append (.cons rz .nil))
                · exact q2.elim
    · exact q2.elim
  · obtain ⟨w2, S2, acc, va, rfl, x2, s2, hv, rv, ow2, q2⟩ := h
    rw [List.drop_length] at q2
    unfold compL at q2
    split at q2
    · exact q2 w2 (.ref D) (x.trans x2) s2 ⟨D, va, rfl, hv, rv, ow2.anti x x2⟩
    · exact q2.elim
end
end Mi
/-! The mirror layer: changes of the store, freezing, fields, defs and their calls. -/
namespace Mi
open PySem L2
section
variable {K : PySem.W.Frag} {ct : Tb} {w w' : Wd}
/-- what is no tuple -/
def NT (o : HO) : Prop := ∀ q : List V, o ≠ .tup q ∧ ∀ ob, o ≠ .frz ob (.tup q)
theorem SOk.nt {a : Addr} {o : SO} {u : HO} (h : SOk K ct w a o) (hn : o ≠ .dead) (e : w.H a = some u) : NT u := by
  cases o with
  | lst ds => obtain ⟨vs, h1, _⟩ := h; rw [e] at h1; cases h1; exact fun _ => ⟨nofun, fun _ => nofun⟩
  | dct ds => obtain ⟨vs, h1, _⟩ := h; rw [e] at h1; cases h1; exact fun _ => ⟨nofun, fun _ => nofun⟩
  | dcT ds => obtain ⟨vs, h1, _⟩ := h; rw [e] at h1; cases h1; exact fun _ => ⟨nofun, fun _ => nofun⟩
  | ins c ds => obtain ⟨dx, vs, h1, _⟩ := h; rw [e] at h1; cases h1; exact fun _ => ⟨nofun, fun _ => nofun⟩
  | dead => exact absurd rfl hn
theorem XT.wr {S : Sto} {i : Nat} {a : Addr} {o : SO} {u : HO} (st : SR K ct w S) (hi : w.ρ[i]? = some a) (ho : S[i]? = some o) (hn : o ≠ .dead) : XT K w (w.put a u) := by
  obtain ⟨nF, nP⟩ := st.dis i a o hi ho hn
  have hm := List.mem_of_getElem? hi
  refine ⟨List.prefix_rfl, fun _ h => h, fun b v h n => (upd_ne (fun e => n (by rw [e]; exact hm))).trans h, fun b v f h => (upd_ne (fun e => nF (by rw [← e]; exact f))).trans h, fun b vs h => sqT_upd (fun v e => (st.ob i a o hi ho).nt hn e) h, fun _ h n => absurd h n, fun _ h n => absurd h n, rfl, fun b v f h => (upd_ne (fun e => nP (by rw [← e]; exact f))).trans h⟩
theorem SR.wr {S : Sto} {i : Nat} {a : Addr} {o o' : SO} {u : HO} (st : SR K ct w S) (hi : w.ρ[i]? = some a) (ho : S[i]? = some o) (hn : o ≠ .dead) (new : SOk K ct (w.put a u) a o') : SR K ct (w.put a u) (S.set i o') := by
  have x := XT.wr (u := u) st hi ho hn
  have hl : i < S.length := (List.getElem?_eq_some_iff.mp ho).1
  refine ⟨by rw [List.length_set]; exact st.len, st.inj, fun j b v h1 h2 n => ?_, fun j b v h1 h2 => ?_, fun b f => ?_, fun b f => ?_, fun b f => ?_⟩
  · by_cases hj : i = j
    · subst hj
      have e : b = a := Option.some.inj (h1.symm.trans hi)
      subst e
      exact st.dis i b o hi ho hn
    · rw [List.getElem?_set_ne hj] at h2
      exact st.dis j b v h1 h2 n
  · by_cases hj : i = j
    · subst hj
      have e : b = a := Option.some.inj (h1.symm.trans hi)
      subst e
      rw [List.getElem?_set_self hl] at h2
      cases h2
      exact new
    · rw [List.getElem?_set_ne hj] at h2
      have ne : b ≠ a := fun e => hj (by
        subst e
        exact ((List.getElem?_inj (List.getElem?_eq_some_iff.mp h1).1 st.inj).mp (h1.trans hi.symm)).symm)
      exact (st.ob j b v h1 h2).mono x (upd_ne ne)
  · obtain ⟨v, hv⟩ := st.fin b f
    exact ⟨v, x.keepF b v f hv⟩
  · by_cases hb : b = a
    · rw [hb]; exact ⟨u, upd_same⟩
    · obtain ⟨v, hv⟩ := st.fρ b f
      exact ⟨v, (upd_ne hb).trans hv⟩
  · obtain ⟨v, hv⟩ := st.fP b f
    exact ⟨v, x.keepP b v f hv⟩
/-- an object of the store is frozen: the store has it no more -/
theorem SR.kill {S : Sto} {i : Nat} {a : Addr} {o : SO} (st : SR K ct w S) (hi : w.ρ[i]? = some a) (ho : S[i]? = some o) (hn : o ≠ .dead) : SR K ct (w.fro a) (S.set i .dead) ∧ XT K w (w.fro a) := by
  have hl : i < S.length := (List.getElem?_eq_some_iff.mp ho).1
  refine ⟨⟨by rw [List.length_set]; exact st.len, st.inj, fun j b v h1 h2 n => ?_, fun j b v h1 h2 => ?_, fun b f => ?_, st.fρ, st.fP⟩, XT.fro1 (st.dis i a o hi ho hn).1 (List.mem_of_getElem? hi)⟩
  · by_cases hj : i = j
    · subst hj
      rw [List.getElem?_set_self hl] at h2
      cases h2
      exact absurd rfl n
    · rw [List.getElem?_set_ne hj] at h2
      obtain ⟨n1, n2⟩ := st.dis j b v h1 h2 n
      refine ⟨fun f => f.elim n1 fun e => hj ?_, n2⟩
      subst e
      exact ((List.getElem?_inj (List.getElem?_eq_some_iff.mp h1).1 st.inj).mp (h1.trans hi.symm)).symm
  · by_cases hj : i = j
    · subst hj
      rw [List.getElem?_set_self hl] at h2
      cases h2
      trivial
    · rw [List.getElem?_set_ne hj] at h2
      exact (st.ob j b v h1 h2).fro
  · rcases f with f | f
    · exact st.fin b f
    · rw [f]; exact st.fρ a (List.mem_of_getElem? hi)
end

/-! ### freezing, at every depth -/
def frzAll (f : D → Sto → Option (D × Sto)) : List D → Sto → Option (List D × Sto)
  | [], S => some ([], S)
  | d :: ds, S => match f d S with
    | none => none
    | some (d', S1) => match frzAll f ds S1 with
      | none => none
      | some (ds', S2) => some (d' :: ds', S2)
def frz : Nat → D → Sto → Option (D × Sto)
  | 0, _, _ => none
  | n + 1, d, S => match d with
    | .ref i => match S[i]? with
      | some (.lst ds) => match frzAll (frz n) ds (S.set i .dead) with
        | some (ds', S') => some (.lst ds', S')
        | none => none
      | some (.dct kds) => match frzAll (frz n) (kds.map (·.2)) (S.set i .dead) with
        | some (ds', S') => some (.dct ((kds.map (·.1)).zip ds'), S')
        | none => none
      | some (.ins c fs) => match frzAll (frz n) (fs.map (·.2)) (S.set i .dead) with
        | some (ds', S') => some (.obj c ((fs.map (·.1)).zip ds'), S')
        | none => none
      | _ => none
    | .tup ds => match frzAll (frz n) ds S with
      | some (ds', S') => some (.tup ds', S')
      | none => none
    | d => some (d, S)
section
variable {K : PySem.W.Frag} {ct : Tb} {w w' : Wd}
theorem frzAll_ok {f : D → Sto → Option (D × Sto)} (hf : ∀ (w : Wd) (S : Sto) (v : V) (d d' : D) (S' : Sto), SR K ct w S → RV K ct w v d → f d S = some (d', S') → ∃ w', w'.H = w.H ∧ XT K w w' ∧ SR K ct w' S' ∧ RV K ct w' v d') :
    ∀ (ds ds' : List D) (w : Wd) (S : Sto) (vs : List V) (S' : Sto), SR K ct w S → RVs K ct w vs ds → frzAll f ds S = some (ds', S') → ∃ w', w'.H = w.H ∧ XT K w w' ∧ SR K ct w' S' ∧ RVs K ct w' vs ds'
  | [], ds', w, S, vs, S', st, r, e => by
    cases e
    cases r
    exact ⟨w, rfl, XT.refl w, st, .nil⟩
  | d :: ds, ds', w, S, vs, S', st, r, e => by
    cases r with
    | cons r1 r2 =>
      unfold frzAll at e
      split at e
      · cases e
      · rename_i d1 S1 e1
        split at e
        · cases e
        · rename_i ds1 S2 e2
          cases e
          obtain ⟨w1, h1, x1, s1, q1⟩ := hf w S _ d d1 S1 st r1 e1
          obtain ⟨w2, h2, x2, s2, q2⟩ := frzAll_ok hf ds ds1 w1 S1 _ _ s1 (r2.mono x1) e2
          exact ⟨w2, h2.trans h1, x1.trans x2, s2, .cons (q1.mono x2) q2⟩
theorem zip_map1 {α β γ : Type} {kds : List (α × β)} {ds : List γ} (h : ds.length = kds.length) : ((kds.map (·.1)).zip ds).map (·.1) = kds.map (·.1) ∧ ((kds.map (·.1)).zip ds).map (·.2) = ds := by
  constructor
  · apply List.map_fst_zip
    simp [h]
  · apply List.map_snd_zip
    simp [h]
theorem frz_ok : ∀ (n : Nat) (w : Wd) (S : Sto) (v : V) (d d' : D) (S' : Sto), SR K ct w S → RV K ct w v d → frz n d S = some (d', S') → ∃ w', w'.H = w.H ∧ XT K w w' ∧ SR K ct w' S' ∧ RV K ct w' v d'
  | 0, _, _, _, _, _, _, _, _, e => by cases e
  | n + 1, w, S, v, d, d', S', st, r, e => by
    unfold frz at e
    split at e
    · rename_i i
      cases r with
      | ref hi =>
        rename_i a
        split at e
        · rename_i ds ho
          split at e
          · rename_i ds' S1 e1
            cases e
            obtain ⟨vs, h1, h2⟩ := st.ob i a _ hi ho
            obtain ⟨s1, x1⟩ := st.kill hi ho nofun
            obtain ⟨w2, e2, x2, s2, r2⟩ := frzAll_ok (frz_ok n) ds ds' _ _ vs _ s1 (h2.imp kp_fro) e1
            exact ⟨w2, e2, x1.trans x2, s2, .lst (.inl ⟨x2.F a (.inr rfl), .inl (by rw [e2]; exact h1)⟩) r2⟩
          · cases e
        · rename_i ds ho
          split at e
          · rename_i ds' S1 e1
            cases e
            obtain ⟨vs, h1, k1, h2⟩ := st.ob i a _ hi ho
            obtain ⟨s1, x1⟩ := st.kill hi ho nofun
            obtain ⟨w2, e2, x2, s2, r2⟩ := frzAll_ok (frz_ok n) _ ds' _ _ _ _ s1 (h2.imp kp_fro) e1
            have hl : ds'.length = ds.length := by have := r2.length; have := h2.length; simp at *; omega
            obtain ⟨z1, z2⟩ := zip_map1 (kds := ds) hl
            exact ⟨w2, e2, x1.trans x2, s2, .dct (x2.F a (.inr rfl)) (by rw [e2]; exact h1) (by rw [z1]; exact k1) (by rw [z2]; exact r2)⟩
          · cases e
        · rename_i c fs ho
          split at e
          · rename_i ds' S1 e1
            cases e
            obtain ⟨dx, vs, h1, ok, k1, h2⟩ := st.ob i a _ hi ho
            obtain ⟨s1, x1⟩ := st.kill hi ho nofun
            obtain ⟨w2, e2, x2, s2, r2⟩ := frzAll_ok (frz_ok n) _ ds' _ _ _ _ s1 (h2.imp kp_fro) e1
            have hl : ds'.length = fs.length := by have := r2.length; have := h2.length; simp at *; omega
            obtain ⟨z1, z2⟩ := zip_map1 (kds := fs) hl
            refine ⟨w2, e2, x1.trans x2, s2, .obj (x2.F a (.inr rfl)) (by rw [e2]; exact h1) ok ?_ (by rw [z2]; exact r2)⟩
            rw [k1]
            have : (fun p : Nat × D => ct.f[p.1]?) = (fun i => ct.f[i]?) ∘ (·.1) := rfl
            rw [this, ← List.map_map, ← List.map_map, z1]
          · cases e
        · cases e
    · rename_i ds
      cases r with
      | tup h q =>
        split at e
        · rename_i ds' S1 e1
          cases e
          obtain ⟨w1, h1, x1, s1, q1⟩ := frzAll_ok (frz_ok n) ds ds' w S _ S' st q e1
          exact ⟨w1, h1, x1, s1, .tup (x1.keepT _ _ h) q1⟩
        · cases e
    · cases e
      exact ⟨w, rfl, XT.refl w, st, r⟩
end
def mFreeze (m : EM) : EM := fun en S => (m en S).bind fun d S1 => match frz 8 d S1 with
  | some (d', S2) => .ok d' S2
  | none => .bad
section
variable {X : Cx} {ct : Tb} {W : WX} {e : Expr}
theorem me_freeze {m : EM} (h : PE X e (tM X.K ct W m)) : PE X e (tM X.K ct W (mFreeze m)) := pe_weak h fun σ H Q h => by
  obtain ⟨w, S, en, rfl, st, ev, h⟩ := h
  refine tG_bind st ev h fun d S1 w1 v e1 st1 ev1 r h1 => ?_
  split at h1
  · rename_i d' S2 e
    obtain ⟨w2, e2, x2, s2, r2⟩ := frz_ok 8 w1 S1 v d d' S2 st1 r e
    rw [← e2]
    exact h1 w2 v x2 s2 r2
  · exact h1.elim
end

theorem lookup_mem {α β : Type} [BEq α] [LawfulBEq α] {c : α} {m : β} : ∀ {tb : List (α × β)}, tb.lookup c = some m → (c, m) ∈ tb
  | [], h => by cases h
  | q :: tb, h => by
    rw [List.lookup_cons] at h
    split at h
    · cases h
      rename_i hb
      rw [show c = q.1 from by simpa using hb]
      exact List.mem_cons_self
    · exact List.mem_cons_of_mem _ (lookup_mem h)
/-! ### fields -/
def mFld (i : Nat) (o : EM) : EM := fun en S => (o en S).bind fun d S1 => match asI S1 d with
  | some (_, fs) => opt (fs.lookup i) S1
  | none => .bad
def putI (i : Nat) (d : D) : List (Nat × D) → List (Nat × D)
  | [] => [(i, d)]
  | (j, x) :: r => if j = i then (j, d) :: r else (j, x) :: putI i d r
/-- o.f = e, o one of the classes -/
def sFldS (cl : List Nat) (i : Nat) (o m : EM) : SM := fun en S => (m en S).then en fun x S1 => (o en S1).then en fun d S2 => match d with
  | .ref j => match S2[j]? with
    | some (.ins c fs) => if cl.contains c = true ∧ fs.length < 1000 then .nx en (S2.set j (.ins c (putI i x fs))) else .bad
    | _ => .bad
  | _ => .bad
section
variable {K : PySem.W.Frag} {ct : Tb} {w w' : Wd}
theorem RFs.put {i : Nat} {f : Str} {v : V} {d : D} (hi : ct.f[i]? = some f) (r : RV K ct w v d) : ∀ {kvs : List (Str × V)} {kds : List (Nat × D)}, RFs K ct w kvs kds → RFs K ct w (putF f v kvs) (putI i d kds)
  | [], [], _ => ⟨by simp [putF, putI, hi], .cons r .nil⟩
  | [], _ :: _, h => absurd h.1 (by simp)
  | _ :: _, [], h => absurd h.1 (by simp)
  | (k, x) :: kvs, (j, y) :: kds, ⟨h1, h2⟩ => by
    simp only [List.map_cons, List.cons.injEq] at h1
    obtain ⟨hk, h1⟩ := h1
    unfold putF putI
    cases h2 with
    | cons rv rs =>
      by_cases hj : j = i
      · subst hj
        rw [hi] at hk
        cases hk
        rw [if_pos rfl, if_pos rfl]
        refine ⟨?_, .cons r rs⟩
        simp only [List.map_cons, hi, h1]
      · have : ¬ k = f := fun z => hj (nodup_ix ct.nd (by rw [← z]; exact hk.symm) hi)
        rw [if_neg this, if_neg hj]
        obtain ⟨q1, q2⟩ := RFs.put hi r (kvs := kvs) (kds := kds) ⟨h1, rs⟩
        refine ⟨?_, .cons rv q2⟩
        simp only [List.map_cons, hk, q1]
theorem putF_mem {f : Str} {v : V} : ∀ {kvs : List (Str × V)} {p : Str × V}, p ∈ putF f v kvs → p.1 = f ∨ p ∈ kvs
  | [], p, h => by
    unfold putF at h
    rw [List.mem_singleton.mp h]
    exact .inl rfl
  | (k, x) :: kvs, p, h => by
    unfold putF at h
    split at h
    · rcases List.mem_cons.mp h with e | h
      · rename_i hk
        rw [e]; exact .inl hk
      · exact .inr (List.mem_cons_of_mem _ h)
    · rcases List.mem_cons.mp h with e | h
      · rw [e]; exact .inr List.mem_cons_self
      · rcases putF_mem h with e | h
        · exact .inl e
        · exact .inr (List.mem_cons_of_mem _ h)
end
section
variable {X : Cx} {ct : Tb} {W : WX} {e o : Expr} {f : Str} {pos pos' : Pos}
theorem me_fld {i : Nat} {m : EM} (hi : ct.f[i]? = some f) (ho : PE X o (tM X.K ct W m)) (hb : attributeBase o f X.env (eval o X.env) = eval o X.env := by rfl) : PE X (.Attribute o f pos) (tM X.K ct W (mFld i m)) := pe_weak (pe_fld ho hb) fun σ H Q h => by
  obtain ⟨w, S, en, rfl, st, ev, h⟩ := h
  refine tG_bind st ev h fun d S1 w1 v e1 st1 ev1 r h1 => ?_
  split at h1
  · rename_i c fs ec
    obtain ⟨a, dx, vs, rfl, hH, ok, rf⟩ := st1.ins r ec
    obtain ⟨d', e', q⟩ := wp_opt h1
    obtain ⟨v', l1, r1⟩ := (rf.lookup hi).1 d' e'
    have hm : (f, v') ∈ vs := lookup_mem l1
    exact ⟨a, _, dx, vs, v', rfl, hH, ok.1, ok.2 _ hm, l1, q w1 v' (XT.refl w1) st1 r1⟩
  · exact h1.elim
theorem ms_fld {i : Nat} {cl : List Nat} {m n : EM} (hi : ct.f[i]? = some f) (hc : ∀ c ∈ cl, NoAttr X.K (ct.c c) f) (ho : PE X o (tM X.K ct W m)) (hv : PE X e (tM X.K ct W n)) (hs : swapsWith e (some (.Attribute o f pos')) pos.line X.env = pure false := by rfl) :
    PS X (.Assign [.Attribute o f pos'] e pos) (tS ct X.K W (sFldS cl i m n)) := ps_weak (ps_fld ho hv hs) fun D σ H h => by
  obtain ⟨w, S, en, rfl, st, ev, h⟩ := h
  refine tG_then st ev h fun x S1 w1 v e1 st1 ev1 r1 h1 => tG_then st1 ev1 h1 fun d S2 w2 u e2 st2 ev2 r2 h2 => ?_
  split at h2
  · rename_i j
    split at h2
    · rename_i c fs ej
      split at h2
      · rename_i hcc
        cases r2 with
        | ref ha =>
          rename_i a
          obtain ⟨dx, vs, hH, ok, rf⟩ := st2.ob j a _ ha ej
          have hna := hc c (by simpa using hcc.1)
          have hl : vs.length < 1000 := by
            have := rf.2.length
            simp at this
            omega
          refine ⟨a, _, dx, vs, rfl, hH, ok.1, hna, hl, ?_⟩
          have x := XT.wr (u := .ins (ct.c c) dx (putF f v vs)) st2 ha ej nofun
          refine h2 (w2.put a (.ins (ct.c c) dx (putF f v vs))) σ x (st2.wr ha ej nofun ⟨dx, _, upd_same, ⟨ok.1, fun p hp => ?_⟩, RFs.mono x (RFs.put hi (r1.mono e2) rf)⟩) (ev2.mono x)
          rcases putF_mem hp with e | h
          · rw [e]; exact hna
          · exact ok.2 p h
      · exact h2.elim
    · exact h2.elim
  · exact h2.elim
end

/-! ### defs -/
/-- a def's promise by its mirror -/
def spM (K : PySem.W.Frag) (ct : Tb) (m : FM) : Sp := fun vs H Q E => ∃ w S ds, w.H = H ∧ SR K ct w S ∧ RVs K ct w vs ds ∧ Wp ct (LV K ct) (fun c d _ H => E c d H) [] w (m ds S) Q
/-- a body's mirror as its def's: np parameters, n names -/
def runB (np n : Nat) (m : SM) : FM := fun ds S => if ds.length = np then match m (ds.map some ++ List.replicate (n - np) none) S with
  | .nx _ S' => .ok .non S'
  | .rt d S' => .ok d S'
  | .exc x _ S' => .exc x S'
  | _ => .bad
  else .bad
def Arity (n : Nat) (m : FM) : Prop := ∀ ds S, ds.length ≠ n → m ds S = .bad
theorem runB_arity (np n : Nat) (m : SM) : Arity np (runB np n m) := fun ds S h => if_neg h
section
variable {P : Program} {w : World} {K : PySem.W.Frag} {mg : Str → Option Value} {base : Heap} {ct : Tb}
/-- the context of a def's body -/
abbrev bcx (P : Program) (w : World) (K : PySem.W.Frag) (mg : Str → Option Value) (base : Heap) (N : List Str) (qual : Str) (st : Stmt) (f : Addr) (cdv : Value) (A : Around) (outer : List Env) (s : Shared) (H : Hp) (E : XK) : Cx :=
  cxOf (L2.CX P w) P w K mg base N qual (defScope st) f cdv A outer s H E
theorem fn_ok {x qual : Str} {st : Stmt} {f : Addr} {fd : FuncData} {N ps : List Str} {k : Nat} {m : SM} (F : Fun K x qual st f fd) (S : FnScope N ps (defScope st))
    (hb : ∀ (cdv : Value) (A : Around) (outer : List Env) (s : Shared) (H : Hp) (E : XK), Room k (A.deeper (PyProof.Rows.envOfC qual (defScope st) s.heap.objs.size f cdv)) → Takes (bcx P w K mg base N qual st f cdv A outer s H E) (fun cls d _ H => E cls d H) →
      PSs (bcx P w K mg base N qual st f cdv A outer s H E) (defBody st) (tS ct K (fun cls d _ H => E cls d H) m)) : FnOk P w K mg base (L2.CX P w) (k + 1) f fd ps (spM K ct (runB ps.length N.length m)) := by
  refine F.okX S (fun vs H Q E h => ?_) (fun cdv A outer s H vs Q E hr h => ⟨_, hb cdv A outer s H E hr (takes_of rfl rfl rfl rfl), ?_⟩)
  · obtain ⟨w, S, ds, e, st, r, h⟩ := h
    unfold runB at h
    split at h
    · rename_i hl
      rw [r.length]; exact hl
    · exact h.elim
  · obtain ⟨w, S, ds, e, st, r, h⟩ := h
    unfold runB at h
    split at h
    · rename_i hl
      subst e
      refine ⟨w, S, ds.map some ++ List.replicate (N.length - ps.length) none, rfl, st, by rw [← hl]; exact RE.start r, ?_⟩
      split at h
      · rename_i e
        rw [e]
        exact fun w' σ' x s _ => h w' .non x s .non
      · rename_i e
        rw [e]
        exact fun w' v x s r => h w' v x s r
      · rename_i e
        rw [e]
        exact fun w' σ' cls dd x s _ r => h w' cls dd x s r
      · exact h.elim
    · exact h.elim
/-- a def that may be called by its name -/
structure Fn (P : Program) (w : World) (K : PySem.W.Frag) (mg : Str → Option Value) (base : Heap) (ct : Tb) (x : Str) (k : Nat) (m : FM) (dds : List D) : Prop where
  ex : ∃ f fd ps ds dvs, mg x = some (.ref f) ∧ PySem.W.keepIn K (.ref f) = true ∧ Binds K fd ps ds ∧ Vals dvs ds ∧ (∀ w, RVs K ct w dvs dds) ∧ FnOk P w K mg base (L2.CX P w) k f fd ps (spM K ct m)
/-- a class's method -/
structure Mt (P : Program) (w : World) (K : PySem.W.Frag) (mg : Str → Option Value) (base : Heap) (ct : Tb) (c : Nat) (x : Str) (k : Nat) (m : FM) (dds : List D) : Prop where
  ex : ∃ f fd ps ds dvs, Meth K (ct.c c) x f ∧ Binds K fd ps ds ∧ Vals dvs ds ∧ (∀ w, RVs K ct w dvs dds) ∧ FnOk P w K mg base (L2.CX P w) k f fd ps (spM K ct m)
/-- a class that may be made by its name -/
structure Mkr (P : Program) (w : World) (K : PySem.W.Frag) (mg : Str → Option Value) (base : Heap) (ct : Tb) (x : Str) (c : Nat) (k : Nat) (m : FM) (dds : List D) : Prop where
  ex : ∃ f fd ps ds dvs, mg x = some (.ref (ct.c c)) ∧ Cls K (ct.c c) ∧ Mk K (ct.c c) f ∧ Binds K fd ps ds ∧ Vals dvs ds ∧ (∀ w, RVs K ct w dvs dds) ∧ FnOk P w K mg base (L2.CX P w) k f fd ps (spM K ct m)
end
def mCall (m : FM) (dds : List D) (n : AM) : EM := fun en S => (n en S).bind fun ds S1 => m (ds ++ dds) S1
def mMeth (tb : List (Nat × FM)) (dds : List D) (o : EM) (n : AM) : EM := fun en S => (o en S).bind fun d S1 => match asI S1 d with
  | some (c, _) => match tb.lookup c with
    | some m => (n en S1).bind fun ds S2 => m (d :: (ds ++ dds)) S2
    | none => .bad
  | none => .bad
def mMake (c : Nat) (m : FM) (dds : List D) (n : AM) : EM := fun en S => (n en S).bind fun ds S1 => (m (.ref S1.length :: (ds ++ dds)) (S1 ++ [.ins c []])).bind fun r S2 => match r with
  | .non => .ok (.ref S1.length) S2
  | _ => .bad
section
variable {X : Cx} {ct : Tb} {W : WX} {e o : Expr} {es : List Expr} {x : Str} {p pos apos : Pos}
theorem me_call {k : Nat} {m : FM} {dds : List D} {n : AM} (G : Fn X.prog X.w X.K X.mg X.base ct x k m dds) (hr : Room k X.A) (tk : Takes X W) (hg : Gl X x) (ha : PA X (e :: es) (tMA X.K ct W n)) (hdb : (x == ("__debug__" : Str)) = false := by decide)
    (he : starEach (e :: es) X.env = (false, eval e X.env) :: starEach es X.env := by rfl) (hpl : (backTo pos (starEach es X.env)).any (·.1) = false := by rfl) : PE X (.Call (.Name x p) (e :: es) [] pos) (tM X.K ct W (mCall m dds n)) := by
  obtain ⟨f, fd, ps, ds, dvs, hm, hk, hb, hd, hv, F⟩ := G.ex
  refine pe_weak (pe_callSD (E := WE W) F hr hg hm hk hb hd (passAt tk) ha hdb he hpl) fun σ H Q h => ?_
  obtain ⟨w, S, en, rfl, st, ev, h⟩ := h
  exact tG_bind st ev h fun ds S1 w1 vs e1 st1 ev1 r h1 => ⟨w1, S1, ds ++ dds, rfl, st1, r.append (hv w1), h1⟩
theorem me_call0 {k : Nat} {m : FM} {dds : List D} (G : Fn X.prog X.w X.K X.mg X.base ct x k m dds) (hr : Room k X.A) (tk : Takes X W) (hg : Gl X x) (hdb : (x == ("__debug__" : Str)) = false := by decide) : PE X (.Call (.Name x p) [] [] pos) (tM X.K ct W (mCall m dds mNil)) := by
  obtain ⟨f, fd, ps, ds, dvs, hm, hk, hb, hd, hv, F⟩ := G.ex
  refine ⟨fun pins s σ H Q I h => ?_⟩
  obtain ⟨w, S, en, rfl, st, ev, h⟩ := h
  refine wpAny_Call_Name_kw (ld_glob I hg hm ?_ hdb)
  refine PySem.W.callWith_K0 I.kIn hk (run_fnSD (E := WE W) (us := []) (vs := []) F hr hb hd (passAt tk σ) I .nil ?_)
  exact ⟨w, S, dds, rfl, st, hv w, h⟩
theorem me_meth {pl : Sem Bool} {k : Nat} {tb : List (Nat × FM)} {dds : List D} {mo : EM} {n : AM} (ho : PE X o (tM X.K ct W mo)) (G : ∀ q ∈ tb, Mt X.prog X.w X.K X.mg X.base ct q.1 x k q.2 dds) (nf : x ∉ ct.f) (hr : Room k X.A) (tk : Takes X W) (ha : PA X (e :: es) (tMA X.K ct W n))
    (hst : starEach (e :: es) X.env = (false, eval e X.env) :: starEach es X.env := by rfl) (hpl : (backTo pos (starEach es X.env)).any (·.1) = false := by rfl)
    (ht : eval (.Call (.Attribute o x apos) (e :: es) [] pos) X.env = (do
      let ov ← eval o X.env
      standAt apos.atName
      let (f, first) ← holding [ov] (getMethod ov x pl)
      callWith pos f first (backTo pos (starEach (e :: es) X.env)) (backToKw pos (keywordEach [] X.env))) := by rfl) :
    PE X (.Call (.Attribute o x apos) (e :: es) [] pos) (tM X.K ct W (mMeth tb dds mo n)) := by
  refine ⟨fun pins s σ H Q I h => ?_⟩
  obtain ⟨w, S, en, rfl, st, ev, h⟩ := h
  refine PySem.W.methodCall_KW (pl := pl) (thn (ho.run pins s σ w.H (fun v H1 => ∃ d S1 w1, w1.H = H1 ∧ XT X.K w w1 ∧ SR X.K ct w1 S1 ∧ RV X.K ct w1 v d ∧ Wp ct (LV X.K ct) W σ w1 (match asI S1 d with
    | some (c, _) => match tb.lookup c with
      | some m => (n en S1).bind fun ds S2 => m (d :: (ds ++ dds)) S2
      | none => .bad
    | none => .bad) Q) I (tG_bind st ev h fun d S1 w1 v e1 st1 ev1 r h1 => ⟨d, S1, w1, rfl, e1, st1, r, h1⟩)) fun u s1 ⟨v, H1, I1, rv, d, S1, w1, eH, x1, st1, r, h1⟩ => ?_) ht
  subst eH
  split at h1
  · rename_i c fs ec
    obtain ⟨a, dx, vs, rfl, hH, ok, rf⟩ := st1.ins r ec
    cases rv
    cases el : tb.lookup c with
    | none =>
      rw [el] at h1
      exact h1.elim
    | some m =>
      have hmem : (c, m) ∈ tb := lookup_mem el
      obtain ⟨f, fd, ps, ds0, dvs, hm, hb, hd, hv, F⟩ := (G _ hmem).ex
      refine getmeth_ok I1 hH ok.1 hm (rf.no nf) ?_
      rw [el] at h1
      refine PySem.W.callWith_K (first := [.ref a]) (h₀ := X.base) I.ok.mod.kin hm.kp (thn (ha.run pos pins s1 σ _ (fun us H2 => spM X.K ct m (.ref a :: (us ++ dvs)) H2 Q (WE W σ)) I1 (tG_bind st1 (ev.mono x1) h1 fun ds S2 w2 us e2 st2 ev2 r2 h2 => ⟨w2, S2, d :: (ds ++ dds), rfl, st2, .cons (r.mono e2) (r2.append (hv w2)), h2⟩)) fun us s2 ⟨vs2, H2, I2, r2, q2⟩ => ⟨I2.kIn, ?_⟩) hst hpl
      exact run_fnSD (E := WE W) (us := .ref a :: us) (vs := .ref a :: vs2) F hr hb hd (passAt tk σ) I2 (.cons rfl r2) q2
  · exact h1.elim
theorem me_meth0 {pl : Sem Bool} {k : Nat} {tb : List (Nat × FM)} {dds : List D} {mo : EM} (ho : PE X o (tM X.K ct W mo)) (G : ∀ q ∈ tb, Mt X.prog X.w X.K X.mg X.base ct q.1 x k q.2 dds) (nf : x ∉ ct.f) (hr : Room k X.A) (tk : Takes X W)
    (ht : eval (.Call (.Attribute o x apos) [] [] pos) X.env = (do
      let ov ← eval o X.env
      standAt apos.atName
      let (f, first) ← holding [ov] (getMethod ov x pl)
      callWith pos f first (backTo pos (starEach [] X.env)) (backToKw pos (keywordEach [] X.env))) := by rfl) :
    PE X (.Call (.Attribute o x apos) [] [] pos) (tM X.K ct W (mMeth tb dds mo mNil)) := by
  refine ⟨fun pins s σ H Q I h => ?_⟩
  obtain ⟨w, S, en, rfl, st, ev, h⟩ := h
  refine PySem.W.methodCall_KW (pl := pl) (thn (ho.run pins s σ w.H (fun v H1 => ∃ d S1 w1, w1.H = H1 ∧ XT X.K w w1 ∧ SR X.K ct w1 S1 ∧ RV X.K ct w1 v d ∧ Wp ct (LV X.K ct) W σ w1 (match asI S1 d with
    | some (c, _) => match tb.lookup c with
      | some m => (mNil en S1).bind fun ds S2 => m (d :: (ds ++ dds)) S2
      | none => .bad
    | none => .bad) Q) I (tG_bind st ev h fun d S1 w1 v e1 st1 ev1 r h1 => ⟨d, S1, w1, rfl, e1, st1, r, h1⟩)) fun u s1 ⟨v, H1, I1, rv, d, S1, w1, eH, x1, st1, r, h1⟩ => ?_) ht
  subst eH
  split at h1
  · rename_i c fs ec
    obtain ⟨a, dx, vs, rfl, hH, ok, rf⟩ := st1.ins r ec
    cases rv
    cases el : tb.lookup c with
    | none =>
      rw [el] at h1
      exact h1.elim
    | some m =>
      have hmem : (c, m) ∈ tb := lookup_mem el
      obtain ⟨f, fd, ps, ds0, dvs, hm, hb, hd, hv, F⟩ := (G _ hmem).ex
      refine getmeth_ok I1 hH ok.1 hm (rf.no nf) ?_
      rw [el] at h1
      refine PySem.W.callWith_K0 (first := [.ref a]) I1.kIn hm.kp ?_
      refine run_fnSD (E := WE W) (us := [.ref a]) (vs := [.ref a]) F hr hb hd (passAt tk σ) I1 (.cons rfl .nil) ?_
      exact ⟨w1, S1, d :: dds, rfl, st1, .cons r (hv w1), h1⟩
  · exact h1.elim
/-- a class's new instance -/
theorem make_w {K : PySem.W.Frag} {w : Wd} {S : Sto} {a dx : Addr} {c : Nat} (st : SR K ct w S) (cl : Cls K (ct.c c)) (ha : w.H a = none) (hd : w.H dx = none) (ne : dx ≠ a) :
    ∃ w', w'.H = upd (upd w.H dx (.own a)) a (.ins (ct.c c) dx []) ∧ XT K w w' ∧ SR K ct w' (S ++ [.ins c []]) ∧ RV K ct w' (.ref a) (.ref S.length) := by
  let w1 := w.put dx (.own a)
  have x1 : XT K w w1 := XT.new hd
  have s1 : SR K ct w1 S := st.new hd
  have ha1 : w1.H a = none := (upd_ne (Ne.symm ne)).trans ha
  let w2 := w1.put a (.ins (ct.c c) dx [])
  have x2 : XT K w1 w2 := XT.new ha1
  have s2 : SR K ct w2 S := s1.new ha1
  have nF : ¬ w2.F a := fun f => by obtain ⟨o, e⟩ := st.fin a f; rw [ha] at e; cases e
  have nρ : a ∉ w2.ρ := fun f => by obtain ⟨o, e⟩ := st.fρ a f; rw [ha] at e; cases e
  have nP : ¬ w2.P a := fun f => by obtain ⟨o, e⟩ := st.fP a f; rw [ha] at e; cases e
  refine ⟨w2.add a, rfl, ((x1.trans x2).add ⟨ha, nF, nρ, nP⟩), s2.add nF nρ nP upd_same ⟨dx, [], upd_same, ⟨cl, fun p h => absurd h List.not_mem_nil⟩, rfl, .nil⟩, .ref ?_⟩
  show (w.ρ ++ [a])[S.length]? = some a
  rw [← st.len, List.getElem?_append_right (Nat.le_refl _)]
  simp
theorem run_makeS {CX : CXT} {k : Nat} {f C : Addr} {fd : FuncData} {ps : List Str} {sp : Sp} {dvs : List V} {ds : List Value} {E : L2.St → XK} {pins : List (Addr × Obj)} {σ : L2.St} {H : Hp} {s : Shared} {Q : VK} {us : List Value} {vs : List V} (M : Mk X.K C f) (F : FnOk X.prog X.w X.K X.mg X.base CX k f fd ps sp) (hr : Room (k + 1) X.A) (hb : Binds X.K fd ps ds) (hd : Vals dvs ds)
    (hx : PassesAt CX X σ (E σ)) (I : Inv X pins σ H s) (r : Vals vs us)
    (h : ∀ x dx, H x = none → H dx = none → dx ≠ x → sp (.ref x :: (vs ++ dvs)) (upd (upd H dx (.own x)) x (.ins C dx [])) (fun v H2 => v = .non ∧ Q (.ref x) H2) (E σ)) :
    wpAny (model X.prog X.w) X.A (call (.ref C) us) (EP X pins σ Q) X.xe s := by
  have hq := h (s.heap.objs.size + 1) s.heap.objs.size (I.hok.fresh (Nat.le_succ _)) (I.hok.fresh (Nat.le_refl _)) (Nat.ne_of_lt (Nat.lt_succ_self _))
  have I2 := Inv.made (C := C) I
  have r2 : Vals (V.ref (s.heap.objs.size + 1) :: (vs ++ dvs)) (Value.ref (s.heap.objs.size + 1) :: (us ++ ds)) := .cons rfl (r.append hd)
  have hl : (Value.ref (s.heap.objs.size + 1) :: us ++ ds).length = ps.length := by
    have e := r2.length
    rw [F.len _ _ _ _ hq] at e
    exact e.symm
  refine wpAny_call (make_map (f := f) I.kIn M.makes M.init (beq_iff_eq.mp M.fn) (codeAny_mono (F.run _ X.stack _ _ ⟨Value.ref (s.heap.objs.size + 1) :: us, []⟩ (Value.ref (s.heap.objs.size + 1) :: (us ++ ds)) _ _ (E σ) (hr.make C us [])
    (I2.env0.make C us []) (hb _ (Value.ref (s.heap.objs.size + 1) :: us) I2.kIn hl) r2 hq) fun r s' hq' => ?_))
  cases r with
  | error e => exact hx pins _ _ e s' I2 hq'
  | ok fl =>
    cases fl with
    | ret u =>
      obtain ⟨v, H', I3, rv, ev, q3⟩ := I2.after hq'
      subst ev
      exact ⟨rv, ⟨V.ref (s.heap.objs.size + 1), H', I3, rfl, q3⟩⟩
    | next => exact False.elim hq'
    | brk => exact False.elim hq'
    | cont => exact False.elim hq'
theorem make_wp {K : PySem.W.Frag} {w : Wd} {S : Sto} {σ : L2.St} {c : Nat} {m : FM} {ds : List D} {vs : List V} {Q : VK} (st : SR K ct w S) (cl : Cls K (ct.c c)) (r : RVs K ct w vs ds)
    (h : Wp ct (LV K ct) W σ w ((m (.ref S.length :: ds) (S ++ [.ins c []])).bind fun r S2 => match r with
      | .non => .ok (.ref S.length) S2
      | _ => .bad) Q) : ∀ x dx, w.H x = none → w.H dx = none → dx ≠ x → spM K ct m (.ref x :: vs) (upd (upd w.H dx (.own x)) x (.ins (ct.c c) dx [])) (fun v H2 => v = .non ∧ Q (.ref x) H2) (WE W σ) := by
  intro a dx ha hd ne
  obtain ⟨w1, e1, x1, s1, r1⟩ := make_w st cl ha hd ne
  rw [← e1]
  refine ⟨w1, S ++ [.ins c []], .ref S.length :: ds, rfl, s1, .cons r1 (r.mono x1), ?_⟩
  have h := Wp.mono x1 h
  cases em : m (.ref S.length :: ds) (S ++ [.ins c []]) with
  | bad => rw [em] at h; exact h.elim
  | exc x S2 => rw [em] at h; exact h
  | ok d S2 =>
    rw [em] at h
    intro w2 v x2 s2 rv
    dsimp only [Rs.bind] at h
    cases rv with
    | non => exact ⟨rfl, h w2 (.ref a) x2 s2 (r1.mono x2)⟩
    | _ => exact h.elim
theorem me_make {c k : Nat} {m : FM} {dds : List D} {n : AM} (G : Mkr X.prog X.w X.K X.mg X.base ct x c k m dds) (hr : Room (k + 1) X.A) (tk : Takes X W) (hg : Gl X x) (ha : PA X (e :: es) (tMA X.K ct W n)) (hdb : (x == ("__debug__" : Str)) = false := by decide)
    (he : starEach (e :: es) X.env = (false, eval e X.env) :: starEach es X.env := by rfl) (hpl : (backTo pos (starEach es X.env)).any (·.1) = false := by rfl) : PE X (.Call (.Name x p) (e :: es) [] pos) (tM X.K ct W (mMake c m dds n)) := by
  obtain ⟨f, fd, ps, ds, dvs, hm, cl, mk, hb, hd, hv, F⟩ := G.ex
  refine ⟨fun pins s σ H Q I h => ?_⟩
  obtain ⟨w, S, en, rfl, st, ev, h⟩ := h
  refine wpAny_Call_Name_kw (ld_glob I hg hm ?_ hdb)
  refine PySem.W.callWith_K (h₀ := X.base) I.ok.mod.kin mk.kp (thn (ha.run pos pins s σ _ (fun us H2 => ∀ x dx, H2 x = none → H2 dx = none → dx ≠ x → spM X.K ct m (.ref x :: (us ++ dvs)) (upd (upd H2 dx (.own x)) x (.ins (ct.c c) dx [])) (fun v H2 => v = .non ∧ Q (.ref x) H2) (WE W σ)) I
    (tG_bind st ev h fun ds S1 w1 us e1 st1 ev1 r h1 => make_wp st1 cl (r.append (hv w1)) h1)) fun us s1 ⟨vs, H1, I1, r, q⟩ => ⟨I1.kIn, ?_⟩) he hpl
  exact run_makeS (E := WE W) mk F hr hb hd (passAt tk σ) I1 r q
theorem me_make0 {c k : Nat} {m : FM} {dds : List D} (G : Mkr X.prog X.w X.K X.mg X.base ct x c k m dds) (hr : Room (k + 1) X.A) (tk : Takes X W) (hg : Gl X x) (hdb : (x == ("__debug__" : Str)) = false := by decide) : PE X (.Call (.Name x p) [] [] pos) (tM X.K ct W (mMake c m dds mNil)) := by
  obtain ⟨f, fd, ps, ds, dvs, hm, cl, mk, hb, hd, hv, F⟩ := G.ex
  refine ⟨fun pins s σ H Q I h => ?_⟩
  obtain ⟨w, S, en, rfl, st, ev, h⟩ := h
  refine wpAny_Call_Name_kw (ld_glob I hg hm ?_ hdb)
  exact PySem.W.callWith_K0 I.kIn mk.kp (run_makeS (E := WE W) (us := []) (vs := []) mk F hr hb hd (passAt tk σ) I .nil (make_wp st cl (hv w) h))
end
end Mi
/-! The mirror layer: ==, in, len, subscripts, slices, isinstance, built-ins. -/
namespace Mi
open PySem L2

/-! ### data -/
mutual
def pd : D → Option PyData
  | .non => some .none
  | .bl b => some (.bool b)
  | .int i => some (.int i)
  | .str x => some (.str x)
  | .tup xs => match pds xs with
    | some ys => some (.tuple ys)
    | none => none
  | .ktup xs => match pds xs with
    | some ys => some (.tuple ys)
    | none => none
  | .lst xs => match pds xs with
    | some ys => some (.list ys)
    | none => none
  | _ => none
def pds : List D → Option (List PyData)
  | [] => some []
  | d :: ds => match pd d with
    | none => none
    | some x => match pds ds with
      | none => none
      | some xs => some (x :: xs)
end
/-- a list of the store, too -/
def pdS (S : Sto) : D → Option PyData
  | .ref i => match asL S (.ref i) with
    | some ds => match pds ds with
      | some ys => some (.list ys)
      | none => none
    | none => none
  | d => pd d
section
variable {K : PySem.W.Frag} {ct : Tb} {w w' : Wd}
mutual
theorem pd_ok : ∀ {v : V} {d : D} {p : PyData}, RV K ct w v d → pd d = some p → Dp K w.H v p
  | _, _, _, .non, e => by unfold pd at e; cases e; exact .non
  | _, _, _, .bl, e => by unfold pd at e; cases e; exact .bl _
  | _, _, _, .int, e => by unfold pd at e; cases e; exact .int _
  | _, _, _, .str, e => by unfold pd at e; cases e; exact .str _
  | _, _, _, .tup h r, e => by
    unfold pd at e
    split at e
    · rename_i ys e1
      cases e
      exact .tup (.of h) (pds_ok r e1)
    · cases e
  | _, _, _, .ktup h r, e => by
    unfold pd at e
    split at e
    · rename_i ys e1
      cases e
      exact .tup (.inr h) (pds_ok r e1)
    · cases e
  | _, _, _, .lst h r, e => by
    unfold pd at e
    split at e
    · rename_i ys e1
      cases e
      refine .lst ?_ (pds_ok r e1)
      rcases h with h | h
      · exact .inl h.2
      · exact .inr h
    · cases e
  | _, _, _, .dct _ _ _ _, e => by unfold pd at e; cases e
  | _, _, _, .obj _ _ _ _ _, e => by unfold pd at e; cases e
  | _, _, _, .ref _, e => by unfold pd at e; cases e
theorem pds_ok : ∀ {vs : List V} {ds : List D} {ps : List PyData}, RVs K ct w vs ds → pds ds = some ps → DpAll K w.H vs ps
  | _, _, _, .nil, e => by unfold pds at e; cases e; exact .nil
  | _, _, _, .cons h r, e => by
    unfold pds at e
    split at e
    · cases e
    · rename_i x e1
      split at e
      · cases e
      · rename_i xs e2
        cases e
        exact .cons (pd_ok h e1) (pds_ok r e2)
end
theorem pdS_ok {S : Sto} {v : V} {d : D} {p : PyData} (st : SR K ct w S) (r : RV K ct w v d) (e : pdS S d = some p) : Dp K w.H v p := by
  cases d with
  | ref i =>
    unfold pdS at e
    dsimp only at e
    split at e
    · rename_i ds h
      split at e
      · rename_i ys e1
        cases e
        obtain ⟨a, vs, rfl, h1, h2⟩ := st.lst r h
        exact .lst h1 (pds_ok h2 e1)
      · cases e
    · cases e
  | _ => exact pd_ok r e
end
def dEq : Op2 := fun a b S => match pdS S a, pdS S b with
  | some x, some y => if SeqAt.shaped x = true ∧ SeqAt.shaped y = true then some (.bl (PyData.eqv x y)) else none
  | _, _ => none
def dNe : Op2 := fun a b S => match pdS S a, pdS S b with
  | some x, some y => if SeqAt.shaped x = true ∧ SeqAt.shaped y = true then some (.bl (!PyData.eqv x y)) else none
  | _, _ => none
section
variable {K : PySem.W.Frag} {ct : Tb} {w w' : Wd}
theorem lift_eq : Lift2 K ct (rEqD K) dEq := fun w S x y dx dy d Q st rx ry e q => by
  unfold dEq at e
  split at e
  · rename_i p1 p2 e1 e2
    split at e
    · rename_i h
      cases e
      exact ⟨p1, p2, pdS_ok st rx e1, pdS_ok st ry e2, h.1, h.2, q w _ (XT.refl w) st .bl⟩
    · cases e
  · cases e
theorem lift_ne : Lift2 K ct (rNeD K) dNe := fun w S x y dx dy d Q st rx ry e q => by
  unfold dNe at e
  split at e
  · rename_i p1 p2 e1 e2
    split at e
    · rename_i h
      cases e
      exact ⟨p1, p2, pdS_ok st rx e1, pdS_ok st ry e2, h.1, h.2, q w _ (XT.refl w) st .bl⟩
    · cases e
  · cases e
end

/-! ### in -/
def asKey : D → Option Key
  | .int i => some (.inl i)
  | .str x => some (.inr x)
  | _ => none
def asKeys : List D → Option (List Key)
  | [] => some []
  | d :: ds => match asKey d with
    | none => none
    | some k => match asKeys ds with
      | none => none
      | some ks => some (k :: ks)
def valD {κ : Type} [DecidableEq κ] (kvs : List (κ × D)) (k : κ) : Option D := (kvs.find? fun kv => decide (kv.1 = k)).map (·.2)
def asKT (S : Sto) : D → Option (List (List Key × D))
  | .ref i => match S[i]? with
    | some (.dcT ds) => some ds
    | _ => none
  | _ => none
/-- what a dict has at a key; none: no dict, or no such key's kind -/
def dGet (S : Sto) (d k : D) : Option (Option D) := match asK S d with
  | some kds => match asKey k with
    | some kk => some (valD kds kk)
    | none => none
  | none => match asKT S d with
    | some kds => match k with
      | .tup ks => match asKeys ks with
        | some kk => some (valD kds kk)
        | none => none
      | _ => none
    | none => none
def oneSign (x : Str) : Option Nat := match x.cps.toList with
  | [c] => some c
  | _ => none
section
variable {K : PySem.W.Frag} {ct : Tb} {w w' : Wd}
theorem asKey_ok {v : V} {d : D} {k : Key} (r : RV K ct w v d) (h : asKey d = some k) : v = kV k := by
  cases r with
  | int => cases h; rfl
  | str => cases h; rfl
  | _ => cases h
theorem asKeys_ok : ∀ {vs : List V} {ds : List D} {ks : List Key}, RVs K ct w vs ds → asKeys ds = some ks → vs = ks.map kV
  | _, _, _, .nil, h => by cases h; rfl
  | _, _, _, .cons r rs, h => by
    unfold asKeys at h
    split at h
    · cases h
    · rename_i k e1
      split at h
      · cases h
      · rename_i ks e2
        cases h
        rw [asKey_ok r e1, asKeys_ok rs e2]
        rfl
theorem RKs.val {κ : Type} [DecidableEq κ] {kvs : List (κ × V)} : ∀ {kds : List (κ × D)} {k : κ}, RKs K ct w kvs kds → (∀ d, valD kds k = some d → ∃ v, valV kvs k = some v ∧ RV K ct w v d) ∧ (valD kds k = none → valV kvs k = none) := by
  induction kvs with
  | nil =>
    intro kds k h
    cases kds with
    | nil => exact ⟨(fun _ e => by cases e), fun _ => rfl⟩
    | cons p r => exact absurd h.1 (by simp)
  | cons q kvs ih =>
    intro kds k h
    cases kds with
    | nil => exact absurd h.1 (by simp)
    | cons p r =>
      obtain ⟨k1, v⟩ := q
      obtain ⟨k2, d2⟩ := p
      obtain ⟨h1, h2⟩ := h
      simp only [List.map_cons, List.cons.injEq] at h1
      obtain ⟨rfl, h1⟩ := h1
      cases h2 with
      | cons rv rs =>
        have h3 := ih (kds := r) (k := k) ⟨h1, rs⟩
        by_cases hk : k1 = k
        · have e1 : valD ((k1, d2) :: r) k = some d2 := by simp [valD, List.find?_cons, hk]
          have e2 : valV ((k1, v) :: kvs) k = some v := valV_pos hk
          rw [e1, e2]
          exact ⟨(fun d e => ⟨v, rfl, (by cases e; exact rv)⟩), (fun e => by cases e)⟩
        · have e1 : valD ((k1, d2) :: r) k = valD r k := by simp [valD, List.find?_cons, hk]
          have e2 : valV ((k1, v) :: kvs) k = valV kvs k := valV_neg hk
          rw [e1, e2]
          exact h3
theorem SR.dT {S : Sto} {v : V} {d : D} {ds : List (List Key × D)} (st : SR K ct w S) (r : RV K ct w v d) (h : asKT S d = some ds) : ∃ a vs, v = .ref a ∧ w.H a = some (.dT vs) ∧ RKs K ct w vs ds := by
  cases r with
  | ref q =>
    rename_i a i
    unfold asKT at h
    dsimp only at h
    split at h
    · rename_i ds' e
      cases h
      obtain ⟨vs, h1, h2⟩ := st.ob i a _ q e
      exact ⟨a, vs, rfl, h1, h2⟩
    · cases h
  | _ => cases h
/-- a tuple that was made here (not of the written part) -/
theorem dGet_ok {S : Sto} {v u : V} {d k : D} {o : Option D} (st : SR K ct w S) (r : RV K ct w v d) (rk : RV K ct w u k) (h : dGet S d k = some o) : ∃ a ov, v = .ref a ∧ DGet w.H a u ov ∧ (∀ d', o = some d' → ∃ v', ov = some v' ∧ RV K ct w v' d') ∧ (o = none → ov = none) := by
  unfold dGet at h
  split at h
  · rename_i kds e1
    split at h
    · rename_i kk e2
      cases h
      obtain ⟨a, vs, rfl, hH, rr⟩ := st.dK r e1
      rw [asKey_ok rk e2]
      exact ⟨a, _, rfl, DGet.k hH, (RKs.val rr).1, (RKs.val rr).2⟩
    · cases h
  · split at h
    · rename_i kds e1
      split at h
      · rename_i ks
        split at h
        · rename_i kk e3
          cases h
          obtain ⟨a, vs, rfl, hH, rr⟩ := st.dT r e1
          cases rk with
          | tup hb rs =>
            rw [asKeys_ok rs e3] at hb
            exact ⟨a, _, rfl, DGet.t hH hb, (RKs.val rr).1, (RKs.val rr).2⟩
        · cases h
      · cases h
    · cases h
end
end Mi
/-! The mirror layer: in, len, subscripts, slices, chains, isinstance, built-ins, methods of lists, dicts and texts. -/
namespace Mi
open PySem L2

/-! ### in -/
/-- x in a list or tuple of data -/
def toV : D → Option V
  | .non => some .non
  | .bl b => some (.bl b)
  | .int i => some (.int i)
  | .str x => some (.str x)
  | _ => none
def toVs : List D → Option (List V)
  | [] => some []
  | d :: ds => match toV d with
    | none => none
    | some v => match toVs ds with
      | none => none
      | some vs => some (v :: vs)
def hasF (S : Sto) (x xs : D) : Option Bool := match asSeq S xs with
  | some ds => match toV x, toVs ds with
    | some v, some vs => some (inV v vs)
    | _, _ => none
  | none => none
def hasD (S : Sto) (x xs : D) : Option Bool := match pdS S x, pdS S xs with
  | some p, some (.list ps) => if SeqAt.shaped p = true ∧ SeqAt.shaped (.list ps) = true then some (ps.any fun z => PyData.eqv z p) else none
  | _, _ => none
def hasS (x z : D) : Option Bool := match x, z with
  | .str a, .str b => match oneSign a with
    | some c => some (decide (c ∈ b.cps.toList))
    | none => none
  | _, _ => none
def blO (f : Bool → Bool) (o : Option Bool) : Option D := match o with
  | some b => some (.bl (f b))
  | none => none
def dInF (f : Bool → Bool) : Op2 := fun x xs S => blO f (hasF S x xs)
def dInD (f : Bool → Bool) : Op2 := fun x xs S => blO f (hasD S x xs)
def dInS (f : Bool → Bool) : Op2 := fun x xs _ => blO f (hasS x xs)
def dInO (f : Bool → Bool) : Op2 := alt (dInF f) (alt (dInD f) (dInS f))
section
variable {K : PySem.W.Frag} {ct : Tb} {w w' : Wd}
theorem toV_ok {v u : V} {d : D} (r : RV K ct w v d) (h : toV d = some u) : v = u := by
  cases r <;> first | (cases h; rfl) | cases h
theorem toVs_ok : ∀ {vs us : List V} {ds : List D}, RVs K ct w vs ds → toVs ds = some us → vs = us
  | _, _, _, .nil, h => by cases h; rfl
  | _, _, _, .cons r rs, h => by
    unfold toVs at h
    split at h
    · cases h
    · rename_i v e1
      split at h
      · cases h
      · rename_i us e2
        cases h
        rw [toV_ok r e1, toVs_ok rs e2]
theorem toV_flat {d : D} {v : V} (h : toV d = some v) : flatV v = true := by
  cases d <;> first | (cases h; rfl) | cases h
theorem toVs_flat : ∀ {ds : List D} {vs : List V}, toVs ds = some vs → vs.all flatV = true
  | [], _, h => by cases h; rfl
  | d :: ds, vs, h => by
    unfold toVs at h
    split at h
    · cases h
    · rename_i v e1
      split at h
      · cases h
      · rename_i us e2
        cases h
        simp [toV_flat e1, toVs_flat e2]
theorem SR.seq {S : Sto} {v : V} {d : D} {ds : List D} (st : SR K ct w S) (r : RV K ct w v d) (h : asSeq S d = some ds) : ∃ a vs, v = .ref a ∧ (SqL K w.H a vs ∨ SqT K w.H a vs) ∧ RVs K ct w vs ds := by
  unfold asSeq at h
  split at h
  · rename_i e
    cases h
    obtain ⟨a, vs, h1, h2, h3⟩ := r.tupD e
    exact ⟨a, vs, h1, .inr h2, h3⟩
  · obtain ⟨a, vs, h1, h2, h3⟩ := st.lst r h
    exact ⟨a, vs, h1, .inl h2, h3⟩
theorem lift_inF {neg : Bool} : Lift2 K ct (rIn K neg) (dInF fun b => if neg = true then !b else b) := fun w S x y dx dy d Q st rx ry e q => by
  unfold dInF blO at e
  split at e
  · rename_i b h
    cases e
    unfold hasF at h
    split at h
    · rename_i ds e1
      split at h
      · rename_i v vs e2 e3
        cases h
        obtain ⟨a, us, rfl, h2, h3⟩ := st.seq ry e1
        have ev := toV_ok rx e2
        have es := toVs_ok h3 e3
        subst ev es
        refine ⟨a, us, rfl, h2, toV_flat e2, toVs_flat e3, ?_⟩
        cases neg <;> exact q w _ (XT.refl w) st .bl
      · cases h
    · cases h
  · cases e
theorem hasD_ok {S : Sto} {x y : V} {dx dy : D} {b : Bool} (st : SR K ct w S) (rx : RV K ct w x dx) (ry : RV K ct w y dy) (h : hasD S dx dy = some b) : ∃ d ds, Dp K w.H x d ∧ Dp K w.H y (.list ds) ∧ SeqAt.shaped d = true ∧ SeqAt.shaped (.list ds) = true ∧ b = ds.any fun z => PyData.eqv z d := by
  unfold hasD at h
  split at h
  · rename_i p ps e1 e2
    split at h
    · rename_i hh
      cases h
      exact ⟨p, ps, pdS_ok st rx e1, pdS_ok st ry e2, hh.1, hh.2, rfl⟩
    · cases h
  · cases h
theorem lift_inD : Lift2 K ct (rInD K) (dInD fun b => b) := fun w S x y dx dy d Q st rx ry e q => by
  unfold dInD blO at e
  split at e
  · rename_i b h
    cases e
    obtain ⟨p, ps, h1, h2, h3, h4, rfl⟩ := hasD_ok st rx ry h
    exact ⟨p, ps, h1, h2, h3, h4, q w _ (XT.refl w) st .bl⟩
  · cases e
theorem lift_notInD : Lift2 K ct (rNotInD K) (dInD fun b => !b) := fun w S x y dx dy d Q st rx ry e q => by
  unfold dInD blO at e
  split at e
  · rename_i b h
    cases e
    obtain ⟨p, ps, h1, h2, h3, h4, rfl⟩ := hasD_ok st rx ry h
    exact ⟨p, ps, h1, h2, h3, h4, q w _ (XT.refl w) st .bl⟩
  · cases e
theorem hasS_ok {x y : V} {dx dy : D} {b : Bool} (rx : RV K ct w x dx) (ry : RV K ct w y dy) (h : hasS dx dy = some b) : ∃ (c : Nat) (z : Str), x = .str ⟨#[c]⟩ ∧ y = .str z ∧ b = decide (c ∈ z.cps.toList) := by
  unfold hasS at h
  split at h
  · rename_i a z
    split at h
    · rename_i c e
      cases h
      cases rx
      cases ry
      unfold oneSign at e
      split at e
      · rename_i c' e'
        cases e
        obtain ⟨cps⟩ := a
        have : cps = #[c] := by
          cases cps
          simpa using e'
        subst this
        exact ⟨c, z, rfl, rfl, rfl⟩
      · cases e
    · cases h
  · cases h
theorem lift_inS : Lift2 K ct (fun x y H Q => ∃ (c : Nat) (z : Str), x = .str ⟨#[c]⟩ ∧ y = .str z ∧ Q (.bl (decide (c ∈ z.cps.toList))) H) (dInS fun b => b) := fun w S x y dx dy d Q st rx ry e q => by
  unfold dInS blO at e
  split at e
  · rename_i b h
    cases e
    obtain ⟨c, z, h1, h2, rfl⟩ := hasS_ok rx ry h
    exact ⟨c, z, h1, h2, q w _ (XT.refl w) st .bl⟩
  · cases e
theorem lift_notInS : Lift2 K ct (fun x y H Q => ∃ (c : Nat) (z : Str), x = .str ⟨#[c]⟩ ∧ y = .str z ∧ Q (.bl (!decide (c ∈ z.cps.toList))) H) (dInS fun b => !b) := fun w S x y dx dy d Q st rx ry e q => by
  unfold dInS blO at e
  split at e
  · rename_i b h
    cases e
    obtain ⟨c, z, h1, h2, rfl⟩ := hasS_ok rx ry h
    exact ⟨c, z, h1, h2, q w _ (XT.refl w) st .bl⟩
  · cases e
end
/-- x in a dict, else in what else there is -/
def mIn (f : Bool → Bool) (a b : EM) : EM := fun en S => (a en S).bind fun x S1 => (b en S1).bind fun y S2 => match dGet S2 y x with
  | some o => .ok (.bl (f o.isSome)) S2
  | none => opt (dInO f x y S2) S2
section
variable {X : Cx} {ct : Tb} {W : WX} {e a b c : Expr} {es : List Expr} {pos : Pos} {ma mb mc : EM}
theorem RV.tupH {K : PySem.W.Frag} {w : Wd} {v : V} {d : D} (r : RV K ct w v d) : True := trivial
theorem in_core {r : R2} {f : Bool → Bool} {σ : L2.St} {w : Wd} {S1 S2 : Sto} {x y : V} {dx dy : D} {Q : VK} (hf : f true = !(f false)) (lf : Lift2 X.K ct r (dInO f)) (st : SR X.K ct w S2) (rx : RV X.K ct w x dx) (ry : RV X.K ct w y dy)
    (h : Wp ct (LV X.K ct) W σ w (match dGet S2 dy dx with
      | some o => .ok (.bl (f o.isSome)) S2
      | none => opt (dInO f dx dy S2) S2) Q) : (∃ a o, y = .ref a ∧ DGet w.H a x o ∧ Q (.bl (f o.isSome)) w.H) ∨ r x y w.H Q := by
  split at h
  · rename_i o e
    obtain ⟨a, ov, h1, h2, h3, h4⟩ := dGet_ok st ry rx e
    refine .inl ⟨a, ov, h1, h2, ?_⟩
    have : ov.isSome = o.isSome := by
      cases o with
      | none => rw [h4 rfl]; rfl
      | some d' =>
        obtain ⟨v', e', _⟩ := h3 d' rfl
        rw [e']; rfl
    rw [this]
    exact Wp.ret h st .bl
  · obtain ⟨d, e, q⟩ := wp_opt h
    exact .inr (lf w S2 x y dx dy d Q st rx ry e q)
def rDIn (f : Bool → Bool) : R2 := fun x y H Q => ∃ a o, y = .ref a ∧ DGet H a x o ∧ Q (.bl (f o.isSome)) H
theorem op_din (hu : X.A.units + 1 < cLine) : OpR X (compareOp .In) (rDIn fun b => b) := fun pins s σ H x y v u Q I rx ry ⟨a, o, e, g, q⟩ => by
  subst e
  cases ry
  exact d_in hu I g rx fun s3 I3 => ⟨.bl o.isSome, H, I3, rfl, q⟩
theorem op_dnotin (hu : X.A.units + 1 < cLine) : OpR X (compareOp .NotIn) (rDIn fun b => !b) := fun pins s σ H x y v u Q I rx ry ⟨a, o, e, g, q⟩ => by
  subst e
  cases ry
  exact d_notIn hu I g rx fun s3 I3 => ⟨.bl (!o.isSome), H, I3, rfl, q⟩
/-- x in y, all the ways -/
theorem op_in_all (hu : X.A.units + 65 < cLine) : OpR X (compareOp .In) (rOr (rDIn fun b => b) (rOr (rIn X.K false) (rOr (rInD X.K) fun x y H Q => ∃ (c : Nat) (z : Str), x = .str ⟨#[c]⟩ ∧ y = .str z ∧ Q (.bl (decide (c ∈ z.cps.toList))) H))) :=
  op_or2 (op_din (by omega)) (op_or2 op_in_seq (op_or2 (op_inD hu) op_in_sign))
theorem op_nin_all (hu : X.A.units + 65 < cLine) : OpR X (compareOp .NotIn) (rOr (rDIn fun b => !b) (rOr (rIn X.K true) (rOr (rNotInD X.K) fun x y H Q => ∃ (c : Nat) (z : Str), x = .str ⟨#[c]⟩ ∧ y = .str z ∧ Q (.bl (!decide (c ∈ z.cps.toList))) H))) :=
  op_or2 (op_dnotin (by omega)) (op_or2 op_notIn_seq (op_or2 (op_notInD hu) op_notIn_sign))
theorem lift_in {K : PySem.W.Frag} : Lift2 K ct (rOr (rIn K false) (rOr (rInD K) fun x y H Q => ∃ (c : Nat) (z : Str), x = .str ⟨#[c]⟩ ∧ y = .str z ∧ Q (.bl (decide (c ∈ z.cps.toList))) H)) (dInO fun b => b) := by
  have e : (dInF fun b => if (false : Bool) = true then !b else b) = dInF fun b => b := by simp
  exact Lift2.or (e ▸ lift_inF) (Lift2.or lift_inD lift_inS)
theorem lift_nin {K : PySem.W.Frag} : Lift2 K ct (rOr (rIn K true) (rOr (rNotInD K) fun x y H Q => ∃ (c : Nat) (z : Str), x = .str ⟨#[c]⟩ ∧ y = .str z ∧ Q (.bl (!decide (c ∈ z.cps.toList))) H)) (dInO fun b => !b) := by
  have e : (dInF fun b => if (true : Bool) = true then !b else b) = dInF fun b => !b := by simp
  exact Lift2.or (e ▸ lift_inF) (Lift2.or lift_notInD lift_notInS)
theorem in65 {k : Nat} {A : Around} (r : Room k A) : A.units + 65 < cLine := by have := r.un; omega
theorem me_in {k : Nat} (hr : Room k X.A) (ha : PE X a (tM X.K ct W ma)) (hb : PE X b (tM X.K ct W mb)) (hm : behindInMarks .In b = false := by with_unfolding_all rfl) : PE X (.Compare a [.In] [b] pos) (tM X.K ct W (mIn (fun b => b) ma mb)) :=
  pe_weak (pe_cmpR (op_in_all (in65 hr)) ha hb hm) fun σ H Q h => by
    obtain ⟨w, S, en, rfl, st, ev, h⟩ := h
    exact tG_bind st ev h fun dx S1 w1 x e1 st1 ev1 rx h1 => tG_bind st1 ev1 h1 fun dy S2 w2 y e2 st2 ev2 ry h2 => in_core (S1 := S2) rfl lift_in st2 (rx.mono e2) ry h2
theorem me_nin {k : Nat} (hr : Room k X.A) (ha : PE X a (tM X.K ct W ma)) (hb : PE X b (tM X.K ct W mb)) (hm : behindInMarks .NotIn b = false := by with_unfolding_all rfl) : PE X (.Compare a [.NotIn] [b] pos) (tM X.K ct W (mIn (fun b => !b) ma mb)) :=
  pe_weak (pe_cmpR (op_nin_all (in65 hr)) ha hb hm) fun σ H Q h => by
    obtain ⟨w, S, en, rfl, st, ev, h⟩ := h
    exact tG_bind st ev h fun dx S1 w1 x e1 st1 ev1 rx h1 => tG_bind st1 ev1 h1 fun dy S2 w2 y e2 st2 ev2 ry h2 => in_core (S1 := S2) rfl lift_nin st2 (rx.mono e2) ry h2
/-- a comparison as a test: it is the comparison's value -/
theorem mt_of {op : CmpOp} {m : EM} {r : R2} {ta tb : TE} (ho : OpR X (compareOp op) r) (ha : PE X a ta) (hb : PE X b tb) (hm : behindInMarks op b = false) (i : ∀ σ H Q, tM X.K ct W m σ H Q → tOp r ta tb σ H Q) : PT X (.Compare a [op] [b] pos) (tMT X.K ct W (mTest m)) :=
  pt_weak (pt_cmpR ho ha hb hm) fun σ H Q h => by
    obtain ⟨w, S, en, rfl, st, ev, h⟩ := h
    exact i _ _ _ (tG_bind st ev h fun dx S1 w1 x e1 st1 ev1 rx h1 => wp_test st1 rx h1)
theorem mt_in {k : Nat} (hr : Room k X.A) (ha : PE X a (tM X.K ct W ma)) (hb : PE X b (tM X.K ct W mb)) (hm : behindInMarks .In b = false := by with_unfolding_all rfl) : PT X (.Compare a [.In] [b] pos) (tMT X.K ct W (mTest (mIn (fun b => b) ma mb))) :=
  mt_of (op_in_all (in65 hr)) ha hb hm fun σ H Q h => by
    obtain ⟨w, S, en, rfl, st, ev, h⟩ := h
    exact tG_bind st ev h fun dx S1 w1 x e1 st1 ev1 rx h1 => tG_bind st1 ev1 h1 fun dy S2 w2 y e2 st2 ev2 ry h2 => in_core (S1 := S2) rfl lift_in st2 (rx.mono e2) ry h2
theorem mt_nin {k : Nat} (hr : Room k X.A) (ha : PE X a (tM X.K ct W ma)) (hb : PE X b (tM X.K ct W mb)) (hm : behindInMarks .NotIn b = false := by with_unfolding_all rfl) : PT X (.Compare a [.NotIn] [b] pos) (tMT X.K ct W (mTest (mIn (fun b => !b) ma mb))) :=
  mt_of (op_nin_all (in65 hr)) ha hb hm fun σ H Q h => by
    obtain ⟨w, S, en, rfl, st, ev, h⟩ := h
    exact tG_bind st ev h fun dx S1 w1 x e1 st1 ev1 rx h1 => tG_bind st1 ev1 h1 fun dy S2 w2 y e2 st2 ev2 ry h2 => in_core (S1 := S2) rfl lift_nin st2 (rx.mono e2) ry h2
theorem me_eq {k : Nat} (hr : Room k X.A) (ha : PE X a (tM X.K ct W ma)) (hb : PE X b (tM X.K ct W mb)) : PE X (.Compare a [.Eq] [b] pos) (tM X.K ct W (mBin dEq ma mb)) := me_cmp (op_eqD hr.units) lift_eq ha hb (nomark _)
theorem me_ne {k : Nat} (hr : Room k X.A) (ha : PE X a (tM X.K ct W ma)) (hb : PE X b (tM X.K ct W mb)) : PE X (.Compare a [.NotEq] [b] pos) (tM X.K ct W (mBin dNe ma mb)) := me_cmp (op_neD hr.units) lift_ne ha hb (nomark _)
theorem mt_eq {k : Nat} (hr : Room k X.A) (ha : PE X a (tM X.K ct W ma)) (hb : PE X b (tM X.K ct W mb)) : PT X (.Compare a [.Eq] [b] pos) (tMT X.K ct W (mTest (mBin dEq ma mb))) := mt_cmp (op_eqD hr.units) lift_eq ha hb (nomark _)
theorem mt_ne {k : Nat} (hr : Room k X.A) (ha : PE X a (tM X.K ct W ma)) (hb : PE X b (tM X.K ct W mb)) : PT X (.Compare a [.NotEq] [b] pos) (tMT X.K ct W (mTest (mBin dNe ma mb))) := mt_cmp (op_neD hr.units) lift_ne ha hb (nomark _)
theorem mt_lt (ha : PE X a (tM X.K ct W ma)) (hb : PE X b (tM X.K ct W mb)) : PT X (.Compare a [.Lt] [b] pos) (tMT X.K ct W (mTest (mBin dLt ma mb))) := mt_cmp op_lt lift_lt ha hb (nomark _)
theorem mt_le (ha : PE X a (tM X.K ct W ma)) (hb : PE X b (tM X.K ct W mb)) : PT X (.Compare a [.LtE] [b] pos) (tMT X.K ct W (mTest (mBin dLe ma mb))) := mt_cmp op_le lift_le ha hb (nomark _)
theorem mt_gt (ha : PE X a (tM X.K ct W ma)) (hb : PE X b (tM X.K ct W mb)) : PT X (.Compare a [.Gt] [b] pos) (tMT X.K ct W (mTest (mBin dGt ma mb))) := mt_cmp op_gt lift_gt ha hb (nomark _)
theorem mt_ge (ha : PE X a (tM X.K ct W ma)) (hb : PE X b (tM X.K ct W mb)) : PT X (.Compare a [.GtE] [b] pos) (tMT X.K ct W (mTest (mBin dGe ma mb))) := mt_cmp op_ge lift_ge ha hb (nomark _)
theorem mt_is (ha : PE X a (tM X.K ct W ma)) (hb : PE X b (tM X.K ct W mb)) : PT X (.Compare a [.Is] [b] pos) (tMT X.K ct W (mTest (mBin dIsN ma mb))) := mt_cmp op_isN lift_isN ha hb (nomark _)
theorem mt_isnot (ha : PE X a (tM X.K ct W ma)) (hb : PE X b (tM X.K ct W mb)) : PT X (.Compare a [.IsNot] [b] pos) (tMT X.K ct W (mTest (mBin dNotN ma mb))) := mt_cmp op_notN lift_notN ha hb (nomark _)
theorem me_lt (ha : PE X a (tM X.K ct W ma)) (hb : PE X b (tM X.K ct W mb)) : PE X (.Compare a [.Lt] [b] pos) (tM X.K ct W (mBin dLt ma mb)) := me_cmp op_lt lift_lt ha hb (nomark _)
theorem me_le (ha : PE X a (tM X.K ct W ma)) (hb : PE X b (tM X.K ct W mb)) : PE X (.Compare a [.LtE] [b] pos) (tM X.K ct W (mBin dLe ma mb)) := me_cmp op_le lift_le ha hb (nomark _)
theorem me_gt (ha : PE X a (tM X.K ct W ma)) (hb : PE X b (tM X.K ct W mb)) : PE X (.Compare a [.Gt] [b] pos) (tM X.K ct W (mBin dGt ma mb)) := me_cmp op_gt lift_gt ha hb (nomark _)
theorem me_ge (ha : PE X a (tM X.K ct W ma)) (hb : PE X b (tM X.K ct W mb)) : PE X (.Compare a [.GtE] [b] pos) (tM X.K ct W (mBin dGe ma mb)) := me_cmp op_ge lift_ge ha hb (nomark _)
theorem me_is (ha : PE X a (tM X.K ct W ma)) (hb : PE X b (tM X.K ct W mb)) : PE X (.Compare a [.Is] [b] pos) (tM X.K ct W (mBin dIsN ma mb)) := me_cmp op_isN lift_isN ha hb (nomark _)
theorem me_isnot (ha : PE X a (tM X.K ct W ma)) (hb : PE X b (tM X.K ct W mb)) : PE X (.Compare a [.IsNot] [b] pos) (tM X.K ct W (mBin dNotN ma mb)) := me_cmp op_notN lift_notN ha hb (nomark _)
/-- a OP b OP' c -/
theorem im_chain {r r' : R2} {f g : Op2} (lf : Lift2 X.K ct r f) (lg : Lift2 X.K ct r' g) : ∀ σ H Q, tM X.K ct W (mChain f g ma mb mc) σ H Q → tChain r r' (tM X.K ct W ma) (tM X.K ct W mb) (tM X.K ct W mc) σ H Q := fun σ H Q h => by
  obtain ⟨w, S, en, rfl, st, ev, h⟩ := h
  refine tG_bind st ev h fun dx S1 w1 x e1 st1 ev1 rx h1 => tG_bind st1 ev1 h1 fun dy S2 w2 y e2 st2 ev2 ry h2 => ?_
  cases e : f dx dy S2 with
  | none => rw [e] at h2; exact h2.elim
  | some d =>
    rw [e] at h2
    refine lf w2 S2 x y dx dy d _ st2 (rx.mono e2) ry e fun w3 z x3 st3 rz => ?_
    have h3 := Wp.mono x3 h2
    dsimp only [opt, Rs.bind] at h3
    cases rz with
    | @bl k =>
      refine ⟨k, rfl, ?_⟩
      cases k with
      | false => exact Wp.ret h3 st3 .bl
      | true =>
        refine tG_bind st3 (ev2.mono x3) h3 fun du S4 w4 u e4 st4 ev4 ru h4 => ?_
        obtain ⟨d', e', q⟩ := wp_opt h4
        exact lg w4 S4 y u dy du d' Q st4 (ry.mono (x3.trans e4)) ru e' q
    | _ => exact h3.elim
theorem me_lele (ha : PE X a (tM X.K ct W ma)) (hb : PE X b (tM X.K ct W mb)) (hc : PE X c (tM X.K ct W mc)) (hm : lastMarks [.LtE, .LtE] [b, c] = false := by with_unfolding_all rfl) : PE X (.Compare a [.LtE, .LtE] [b, c] pos) (tM X.K ct W (mChain dLe dLe ma mb mc)) := pe_weak (pe_chain op_le op_le ha hb hc hm) (im_chain lift_le lift_le)
theorem me_lelt (ha : PE X a (tM X.K ct W ma)) (hb : PE X b (tM X.K ct W mb)) (hc : PE X c (tM X.K ct W mc)) (hm : lastMarks [.LtE, .Lt] [b, c] = false := by with_unfolding_all rfl) : PE X (.Compare a [.LtE, .Lt] [b, c] pos) (tM X.K ct W (mChain dLe dLt ma mb mc)) := pe_weak (pe_chain op_le op_lt ha hb hc hm) (im_chain lift_le lift_lt)
theorem mt_lele (ha : PE X a (tM X.K ct W ma)) (hb : PE X b (tM X.K ct W mb)) (hc : PE X c (tM X.K ct W mc)) (hm : lastMarks [.LtE, .LtE] [b, c] = false := by with_unfolding_all rfl) : PT X (.Compare a [.LtE, .LtE] [b, c] pos) (tMT X.K ct W (mTest (mChain dLe dLe ma mb mc))) := pt_weak (pt_chain op_le op_le ha hb hc hm) fun σ H Q h => by
  obtain ⟨w, S, en, rfl, st, ev, h⟩ := h
  exact im_chain lift_le lift_le _ _ _ (tG_bind st ev h fun dx S1 w1 x e1 st1 ev1 rx h1 => wp_test st1 rx h1)
theorem mt_lelt (ha : PE X a (tM X.K ct W ma)) (hb : PE X b (tM X.K ct W mb)) (hc : PE X c (tM X.K ct W mc)) (hm : lastMarks [.LtE, .Lt] [b, c] = false := by with_unfolding_all rfl) : PT X (.Compare a [.LtE, .Lt] [b, c] pos) (tMT X.K ct W (mTest (mChain dLe dLt ma mb mc))) := pt_weak (pt_chain op_le op_lt ha hb hc hm) fun σ H Q h => by
  obtain ⟨w, S, en, rfl, st, ev, h⟩ := h
  exact im_chain lift_le lift_lt _ _ _ (tG_bind st ev h fun dx S1 w1 x e1 st1 ev1 rx h1 => wp_test st1 rx h1)
end

/-! ### subscripts -/
def dIx : Op2 := fun x y S => match dGet S x y with
  | some (some d) => some d
  | some none => none
  | none => match y with
    | .int i => match asSeq S x with
      | some ds => atI ds i
      | none => match x with
        | .str z => if z.length ≤ sizeLine then match atI z.cps.toList i with
          | some c => some (.str ⟨#[c]⟩)
          | none => none
          else none
        | _ => none
    | _ => none
def rDIx : R2 := fun x y H Q => ∃ a v, x = .ref a ∧ DGet H a y (some v) ∧ Q v H
/-- a part of a slice -/
def mPart (m : EM) : En → Sto → Rs (Option Int) := fun en S => (m en S).bind fun d S1 => match d with
  | .int i => .ok (some i) S1
  | _ => .bad
def mNoPart : En → Sto → Rs (Option Int) := fun _ S => .ok none S
def LO (K : PySem.W.Frag) : Rl K (Option Int) (Option Int) := ⟨fun _ _ a b => a = b, fun _ _ _ _ _ _ _ h => h⟩
/-- a slice that makes no list -/
def dSl (x : D) (lo hi : Option Int) : Option D := match x with
  | .str z => if z.length ≤ sizeLine then some (.str (cutS z lo hi)) else none
  | .tup ds => some (.tup ((ds.drop (HT.sIx ds.length 0 lo)).take (HT.sIx ds.length ds.length hi - HT.sIx ds.length 0 lo)))
  | _ => none
def cutD (ds : List D) (lo hi : Option Int) : List D := (ds.drop (HT.sIx ds.length 0 lo)).take (HT.sIx ds.length ds.length hi - HT.sIx ds.length 0 lo)
def mSl (m : EM) (lo hi : En → Sto → Rs (Option Int)) : EM := fun en S => (m en S).bind fun x S1 => (lo en S1).bind fun l S2 => (hi en S2).bind fun h S3 => match dSl x l h with
  | some d => .ok d S3
  | none => match asL S3 x with
    | some ds => .ok (.lst (cutD ds l h)) S3
    | none => .bad
def lSl (m : EM) (lo hi : En → Sto → Rs (Option Int)) : AM := fun en S => (m en S).bind fun x S1 => (lo en S1).bind fun l S2 => (hi en S2).bind fun h S3 => match asL S3 x with
  | some ds => .ok (cutD ds l h) S3
  | none => .bad
section
variable {X : Cx} {ct : Tb} {W : WX} {e a b c : Expr} {es : List Expr} {pos : Pos} {ma mb mc : EM}
theorem ix_dict (hu : X.A.units + 1 < cLine) : IxR X rDIx := fun value slice pins s σ H x y v u Q I rx ry ⟨a, z, e, g, q⟩ hs => by
  subst e
  cases rx
  exact PyProof.Rows.tail_any (dict_typeIs I g) PySem.F.slot_dict_getitem.lookup (d_getItem hu I g ry fun w' s3 I3 rw' => ⟨z, H, I3, rw', q⟩) hs
theorem me_ix {k : Nat} (hr : Room k X.A) (ha : PE X a (tM X.K ct W ma)) (hb : PE X b (tM X.K ct W mb)) (hs : PlainIx b := by exact fun _ _ => rfl) : PE X (.Subscript a b pos) (tM X.K ct W (mBin dIx ma mb)) :=
  pe_weak (pe_ix ((ix_dict (hu_of hr)).or ix_seq) ha hb hs) fun σ H Q h => by
    obtain ⟨w, S, en, rfl, st, ev, h⟩ := h
    refine tG_bind st ev h fun dx S1 w1 x e1 st1 ev1 rx h1 => tG_bind st1 ev1 h1 fun dy S2 w2 y e2 st2 ev2 ry h2 => ?_
    have rx := rx.mono e2
    obtain ⟨d, e, q⟩ := wp_opt h2
    unfold dIx at e
    split at e
    · rename_i d' eg
      cases e
      obtain ⟨a, ov, h1, h2, h3, h4⟩ := dGet_ok st2 rx ry eg
      obtain ⟨v', e', r'⟩ := h3 d rfl
      rw [e'] at h2
      exact .inl ⟨a, v', h1, h2, q w2 v' (XT.refl w2) st2 r'⟩
    · cases e
    · split at e
      · cases ry
        split at e
        · rename_i ds es
          obtain ⟨a, vs, rfl, hs, rs⟩ := st2.seq rx es
          obtain ⟨v', e', r'⟩ := atI_rel rs e
          have q := q w2 v' (XT.refl w2) st2 r'
          rcases hs with hs | hs
          · exact .inr (.inl ⟨a, vs, _, v', rfl, rfl, hs, e', q⟩)
          · exact .inr (.inr (.inl ⟨a, vs, _, v', rfl, rfl, hs, e', q⟩))
        · split at e
          · split at e
            · split at e
              · rename_i hz _ c hc
                cases e
                cases rx
                exact .inr (.inr (.inr ⟨_, _, c, rfl, rfl, hz, hc, q w2 _ (XT.refl w2) st2 .str⟩))
              · cases e
            · cases e
          · cases e
      · cases e
theorem mpo_none : PO X none (tG ct (LO X.K) W mNoPart) := by
  have h : PO X none tNoPart := po_none
  exact ⟨fun pins s σ H Q I q => h.run pins s σ H Q I (by
    obtain ⟨w, S, en, rfl, st, ev, q⟩ := q
    exact q w none (XT.refl w) st rfl)⟩
theorem mpo_some {m : EM} (hm : PE X e (tM X.K ct W m)) : PO X (some e) (tG ct (LO X.K) W (mPart m)) := by
  have h : PO X (some e) (tPart (tM X.K ct W m)) := po_some hm
  exact ⟨fun pins s σ H Q I q => h.run pins s σ H Q I (by
    obtain ⟨w, S, en, rfl, st, ev, q⟩ := q
    refine tG_bind st ev q fun d S1 w1 v e1 st1 ev1 r q1 => ?_
    cases r with
    | int => exact ⟨_, rfl, q1 w1 _ (XT.refl w1) st1 rfl⟩
    | _ => exact q1.elim)⟩
theorem RVs.cut {K : PySem.W.Frag} {w : Wd} {vs : List V} {ds : List D} {lo hi : Option Int} (r : RVs K ct w vs ds) : RVs K ct w (cutV vs lo hi) (cutD ds lo hi) := by
  unfold cutV cutD
  rw [r.length]
  exact (r.drop _).take _
theorem me_slice {lo hi : Option Expr} {ml mh : En → Sto → Rs (Option Int)} {p2 : Pos} {m : EM} (he : PE X e (tM X.K ct W m)) (hl : PO X lo (tG ct (LO X.K) W ml)) (hh : PO X hi (tG ct (LO X.K) W mh)) : PE X (.Subscript e (.Slice lo hi none p2) pos) (tM X.K ct W (mSl m ml mh)) :=
  pe_weak (pe_slice (sl_str.or (sl_tupA.or sl_list)) he hl hh) fun σ H Q h => by
    obtain ⟨w, S, en, rfl, st, ev, h⟩ := h
    refine tG_bind st ev h fun dx S1 w1 x e1 st1 ev1 rx h1 => tG_bind st1 ev1 h1 fun l S2 w2 l' e2 st2 ev2 rl h2 => tG_bind st2 ev2 h2 fun u S3 w3 u' e3 st3 ev3 ru h3 => ?_
    have el : l' = l := rl
    have eu : u' = u := ru
    subst el eu
    have rx := rx.mono (e2.trans e3)
    split at h3
    · rename_i d ed
      unfold dSl at ed
      split at ed
      · split at ed
        · rename_i hz
          cases ed
          cases rx
          exact .inl ⟨_, rfl, hz, Wp.ret h3 st3 .str⟩
        · cases ed
      · cases ed
        cases rx with
        | tup hH rs =>
          refine .inr (.inl ⟨_, _, rfl, .of hH, fun hw => ?_, fun hw p hp => ?_⟩)
          · refine Wp.ret h3 st3 (.tup hH ?_)
            rw [rs.length] at hw
            rw [hw.1, hw.2]
            simpa using rs
          · obtain ⟨w4, e4, x4, s4, r4⟩ := mk_tup st3 (RVs.cut (lo := l') (hi := u') rs) hp
            rw [← e4]
            exact h3 w4 _ x4 s4 r4
      · cases ed
    · split at h3
      · rename_i ds ed
        obtain ⟨a, vs, rfl, hs, rs⟩ := st3.lst rx ed
        refine .inr (.inr ⟨a, vs, rfl, hs, fun p hp => ?_⟩)
        obtain ⟨w4, e4, x4, s4, r4⟩ := mk_lst st3 (RVs.cut (lo := l') (hi := u') rs) hp
        rw [← e4]
        exact h3 w4 _ x4 s4 r4
      · exact h3.elim
theorem ml_slice {lo hi : Option Expr} {ml mh : En → Sto → Rs (Option Int)} {p2 : Pos} {m : EM} (he : PE X e (tM X.K ct W m)) (hl : PO X lo (tG ct (LO X.K) W ml)) (hh : PO X hi (tG ct (LO X.K) W mh)) : PE X (.Subscript e (.Slice lo hi none p2) pos) (tML X.K ct W (lSl m ml mh)) :=
  pe_weak (pe_slice sl_list he hl hh) fun σ H Q h => by
    obtain ⟨w, S, en, rfl, st, ev, h⟩ := h
    refine tG_bind st ev h fun dx S1 w1 x e1 st1 ev1 rx h1 => tG_bind st1 ev1 h1 fun l S2 w2 l' e2 st2 ev2 rl h2 => tG_bind st2 ev2 h2 fun u S3 w3 u' e3 st3 ev3 ru h3 => ?_
    have el : l' = l := rl
    have eu : u' = u := ru
    subst el eu
    have rx := rx.mono (e2.trans e3)
    split at h3
    · rename_i ds ed
      obtain ⟨a, vs, rfl, hs, rs⟩ := st3.lst rx ed
      refine ⟨a, vs, rfl, hs, fun p hp => ?_⟩
      obtain ⟨w4, e4, x4, s4, r4⟩ := mk_own st3 (RVs.cut (lo := l') (hi := u') rs) hp
      rw [← e4]
      exact h3 w4 _ x4 s4 r4
    · exact h3.elim
def lRev (m : EM) : AM := fun en S => (m en S).bind fun x S1 => match asL S1 x with
  | some ds => .ok ds.reverse S1
  | none => .bad
theorem ml_rev {k : Nat} {p1 p2 p3 : Pos} {m : EM} (he : PE X e (tM X.K ct W m)) : PE X (.Subscript e (.Slice none none (some (.UnaryOp .USub (.Constant (.int 1) k p1) p2)) p3) pos) (tML X.K ct W (lRev m)) := pe_weak (pe_revL he) fun σ H Q h => by
  obtain ⟨w, S, en, rfl, st, ev, h⟩ := h
  refine tG_bind st ev h fun dx S1 w1 x e1 st1 ev1 rx h1 => ?_
  split at h1
  · rename_i ds ed
    obtain ⟨a, vs, rfl, hs, rs⟩ := st1.lst rx ed
    refine ⟨a, vs, rfl, hs, fun p hp => ?_⟩
    obtain ⟨w4, e4, x4, s4, r4⟩ := mk_own st1 rs.reverse hp
    rw [← e4]
    exact h1 w4 _ x4 s4 r4
  · exact h1.elim
end
end Mi
/-! The mirror layer: built-in functions, methods, dicts, what is walked, raise. -/
namespace Mi
open PySem L2

/-! ### functions of values -/
def oLen : OpN := fun xs S => match xs with
  | [x] => match asSeq S x with
    | some ds => some (.int ds.length)
    | none => match x with
      | .str z => if z.length ≤ sizeLine then some (.int z.length) else none
      | _ => match asK S x with
        | some kds => some (.int kds.length)
        | none => none
  | _ => none
def rLenA (K : PySem.W.Frag) : List V → Hp → VK → Prop := fun xs H Q => (∃ x n, xs = [x] ∧ LenV K x H n ∧ Q (.int n) H) ∨ ∃ a kvs, xs = [V.ref a] ∧ H a = some (.dK kvs) ∧ Q (.int kvs.length) H
theorem cr_or {X : Cx} {f : Value} {r r' : List V → Hp → VK → Prop} (h : CallR X f r) (h' : CallR X f r') : CallR X f (fun xs H Q => r xs H Q ∨ r' xs H Q) := fun pins s σ H xs us Q I rs q => q.elim (h pins s σ H xs us Q I rs) (h' pins s σ H xs us Q I rs)
def asBs : List D → Option (List Bool)
  | [] => some []
  | .bl b :: ds => match asBs ds with
    | some bs => some (b :: bs)
    | none => none
  | _ => none
def asInts : List D → Option (List Int)
  | [] => some []
  | .int b :: ds => match asInts ds with
    | some bs => some (b :: bs)
    | none => none
  | _ => none
def asStrs : List D → Option (List Str)
  | [] => some []
  | .str b :: ds => match asStrs ds with
    | some bs => some (b :: bs)
    | none => none
  | _ => none
def oAll : OpN := fun xs S => match xs with
  | [x] => match asL S x with
    | some ds => match asBs ds with
      | some bs => some (.bl (bs.all id))
      | none => none
    | none => none
  | _ => none
def oSum : OpN := fun xs S => match xs with
  | [x] => match asL S x with
    | some ds => match asInts ds with
      | some bs => some (.int bs.sum)
      | none => none
    | none => none
  | _ => none
def oMax2 : OpN := fun xs _ => match xs with
  | [.int i, .int j] => some (.int (if j > i then j else i))
  | _ => none
def oMin2 : OpN := fun xs _ => match xs with
  | [.int i, .int j] => some (.int (if j < i then j else i))
  | _ => none
def oInt : OpN := fun xs _ => match xs with
  | [.int i] => some (.int i)
  | [.bl b] => some (.int (if b then 1 else 0))
  | [.str a] => match PySem.intText? a with
    | some n => if a.length ≤ 640 then some (.int n) else none
    | none => none
  | _ => none
def rIntA : List V → Hp → VK → Prop := fun xs H Q => ((∃ i, xs = [.int i] ∧ Q (.int i) H) ∨ ∃ k, xs = [.bl k] ∧ Q (.int (if k then 1 else 0)) H) ∨ ∃ a n, xs = [.str a] ∧ PySem.intText? a = some n ∧ a.length ≤ 640 ∧ Q (.int n) H
def oDivmod : OpN := fun xs _ => match xs with
  | [.int i, .int j] => if 0 < j ∧ j < 1073741824 then some (.tup [.int (i / j), .int (i % j)]) else none
  | _ => none
/-- built-in classes -/
inductive BT where
  | non | bl | int | str | tup | lst | dct
  deriving DecidableEq
def BT.nm : BT → String
  | .non => "NoneType" | .bl => "bool" | .int => "int" | .str => "str" | .tup => "tuple" | .lst => "list" | .dct => "dict"
def isB (a b : BT) : Bool := decide (a = b) || (decide (a = .bl) && decide (b = .int))
/-- the class of a built-in thing -/
def tyD (S : Sto) : D → Option BT
  | .non => some .non
  | .bl _ => some .bl
  | .int _ => some .int
  | .str _ => some .str
  | .tup _ => some .tup
  | .lst _ => some .lst
  | .dct _ => some .dct
  | .ref i => match S[i]? with
    | some (.lst _) => some .lst
    | some (.dct _) => some .dct
    | some (.dcT _) => some .dct
    | _ => none
  | _ => none
/-- isinstance(x, T), isinstance(x, (T, U)) with built-in classes -/
def mIsi (Ts : List BT) (m : EM) : EM := fun en S => (m en S).bind fun x S1 => match tyD S1 x with
  | some t => .ok (.bl (Ts.any (isB t))) S1
  | none => .bad
theorem kitB_isB : ∀ a b : BT, kitB a.nm b.nm = some (isB a b) := by
  intro a b
  cases a <;> cases b <;> decide +kernel
section
variable {K : PySem.W.Frag} {ct : Tb} {w w' : Wd}
theorem lift_len : LiftN K ct (rLenA K) oLen := fun w S xs ds d Q st r e q => by
  unfold oLen at e
  split at e
  · cases r with
    | cons r1 r2 =>
      cases r2
      split at e
      · rename_i ds h
        cases e
        obtain ⟨a, vs, rfl, h2, h3⟩ := st.seq r1 h
        refine .inl ⟨_, ds.length, rfl, ?_, q w _ (XT.refl w) st .int⟩
        rcases h2 with h2 | h2
        · exact .inl ⟨vs, h2, h3.length.symm⟩
        · exact .inr ⟨vs, h2, h3.length.symm⟩
      · split at e
        · split at e
          · rename_i hz
            cases e
            cases r1
            exact .inl ⟨_, _, rfl, ⟨hz, rfl⟩, q w _ (XT.refl w) st .int⟩
          · cases e
        · split at e
          · rename_i kds h
            cases e
            obtain ⟨a, vs, rfl, h2, h3⟩ := st.dK r1 h
            refine .inr ⟨a, vs, rfl, h2, ?_⟩
            have : vs.length = kds.length := by have := h3.2.length; simpa using this
            rw [this]
            exact q w _ (XT.refl w) st .int
          · cases e
  · cases e
theorem asBs_ok : ∀ {vs : List V} {ds : List D} {bs : List Bool}, RVs K ct w vs ds → asBs ds = some bs → vs = bs.map V.bl
  | _, _, _, .nil, h => by cases h; rfl
  | _, _, _, .cons r rs, h => by
    cases r with
    | bl =>
      unfold asBs at h
      split at h
      · rename_i bs e
        cases h
        rw [asBs_ok rs e]; rfl
      · cases h
    | _ => cases h
theorem asInts_ok : ∀ {vs : List V} {ds : List D} {bs : List Int}, RVs K ct w vs ds → asInts ds = some bs → vs = bs.map V.int
  | _, _, _, .nil, h => by cases h; rfl
  | _, _, _, .cons r rs, h => by
    cases r with
    | int =>
      unfold asInts at h
      split at h
      · rename_i bs e
        cases h
        rw [asInts_ok rs e]; rfl
      · cases h
    | _ => cases h
theorem asStrs_ok : ∀ {vs : List V} {ds : List D} {bs : List Str}, RVs K ct w vs ds → asStrs ds = some bs → vs = bs.map V.str
  | _, _, _, .nil, h => by cases h; rfl
  | _, _, _, .cons r rs, h => by
    cases r with
    | str =>
      unfold asStrs at h
      split at h
      · rename_i bs e
        cases h
        rw [asStrs_ok rs e]; rfl
      · cases h
    | _ => cases h
theorem lift_all : LiftN K ct (rAll K) oAll := fun w S xs ds d Q st r e q => by
  unfold oAll at e
  split at e
  · cases r with
    | cons r1 r2 =>
      cases r2
      split at e
      · rename_i ds h
        split at e
        · rename_i bs hb
          cases e
          obtain ⟨a, vs, rfl, h2, h3⟩ := st.lst r1 h
          rw [asBs_ok h3 hb] at h2
          exact ⟨a, bs, rfl, h2, q w _ (XT.refl w) st .bl⟩
        · cases e
      · cases e
  · cases e
theorem lift_sum : LiftN K ct (rSum K) oSum := fun w S xs ds d Q st r e q => by
  unfold oSum at e
  split at e
  · cases r with
    | cons r1 r2 =>
      cases r2
      split at e
      · rename_i ds h
        split at e
        · rename_i bs hb
          cases e
          obtain ⟨a, vs, rfl, h2, h3⟩ := st.lst r1 h
          rw [asInts_ok h3 hb] at h2
          exact ⟨a, bs, rfl, h2, q w _ (XT.refl w) st .int⟩
        · cases e
      · cases e
  · cases e
theorem RVs.two {vs : List V} {a b : D} (r : RVs K ct w vs [a, b]) : ∃ u v, vs = [u, v] ∧ RV K ct w u a ∧ RV K ct w v b := by
  cases r with
  | cons r1 r2 => cases r2 with | cons r2 r3 => cases r3; exact ⟨_, _, rfl, r1, r2⟩
theorem RVs.one {vs : List V} {a : D} (r : RVs K ct w vs [a]) : ∃ u, vs = [u] ∧ RV K ct w u a := by
  cases r with
  | cons r1 r2 => cases r2; exact ⟨_, rfl, r1⟩
theorem lift_max2 : LiftN K ct (fun xs H Q => ∃ i j, xs = [.int i, .int j] ∧ Q (.int (if j > i then j else i)) H) oMax2 := fun w S xs ds d Q st r e q => by
  unfold oMax2 at e
  split at e
  · cases e
    obtain ⟨u, v, rfl, r1, r2⟩ := r.two
    cases r1
    cases r2
    exact ⟨_, _, rfl, q w _ (XT.refl w) st .int⟩
  · cases e
theorem lift_min2 : LiftN K ct (fun xs H Q => ∃ i j, xs = [.int i, .int j] ∧ Q (.int (if j < i then j else i)) H) oMin2 := fun w S xs ds d Q st r e q => by
  unfold oMin2 at e
  split at e
  · cases e
    obtain ⟨u, v, rfl, r1, r2⟩ := r.two
    cases r1
    cases r2
    exact ⟨_, _, rfl, q w _ (XT.refl w) st .int⟩
  · cases e
theorem lift_int : LiftN K ct rIntA oInt := fun w S xs ds d Q st r e q => by
  unfold oInt at e
  split at e
  · cases e
    obtain ⟨u, rfl, r1⟩ := r.one
    cases r1
    exact .inl (.inl ⟨_, rfl, q w _ (XT.refl w) st .int⟩)
  · cases e
    obtain ⟨u, rfl, r1⟩ := r.one
    cases r1
    exact .inl (.inr ⟨_, rfl, q w _ (XT.refl w) st .int⟩)
  · split at e
    · split at e
      · rename_i hn hz
        cases e
        obtain ⟨u, rfl, r1⟩ := r.one
        cases r1
        exact .inr ⟨_, _, rfl, hn, hz, q w _ (XT.refl w) st .int⟩
      · cases e
    · cases e
  · cases e
theorem lift_divmod : LiftN K ct (fun xs H Q => ∃ i j, xs = [.int i, .int j] ∧ CDiv i j ∧ ∀ p, H p = none → Q (.ref p) (upd H p (.tup [.int (i / j), .int (i % j)]))) oDivmod := fun w S xs ds d Q st r e q => by
  unfold oDivmod at e
  split at e
  · split at e
    · rename_i hc
      cases e
      obtain ⟨u, v, rfl, r1, r2⟩ := r.two
      cases r1
      cases r2
      refine ⟨_, _, rfl, hc, fun p hp => ?_⟩
      obtain ⟨w2, e2, x2, s2, r2⟩ := mk_tup (vs := [.int _, .int _]) st (.cons .int (.cons .int .nil)) hp
      rw [← e2]
      exact q w2 _ x2 s2 r2
    · cases e
  · cases e
end
section
variable {X : Cx} {ct : Tb} {W : WX} {e a b c : Expr} {es : List Expr} {pos p : Pos} {m : EM} {n : AM}
theorem me_len (hg : Gl X "len") (hm : X.mg "len" = none) (ha : PA X [e] (tMA X.K ct W n)) (hs : starEach [e] X.env = (false, eval e X.env) :: starEach [] X.env := by rfl) : PE X (.Call (.Name "len" p) [e] [] pos) (tM X.K ct W (mOpN oLen n)) :=
  me_callB (cr_or call_len call_lenD) lift_len hg hm PySem.boot_len ha (by decide) (by decide) hs rfl
theorem me_all (hc : X.calm = true) (hg : Gl X "all") (hm : X.mg "all" = none) (ha : PA X [e] (tMA X.K ct W n)) (hs : starEach [e] X.env = (false, eval e X.env) :: starEach [] X.env := by rfl) : PE X (.Call (.Name "all" p) [e] [] pos) (tM X.K ct W (mOpN oAll n)) :=
  me_callB (cr_all hc) lift_all hg hm (by decide +kernel) ha (by decide) (by decide) hs rfl
theorem me_sum (hc : X.calm = true) (hg : Gl X "sum") (hm : X.mg "sum" = none) (ha : PA X [e] (tMA X.K ct W n)) (hs : starEach [e] X.env = (false, eval e X.env) :: starEach [] X.env := by rfl) : PE X (.Call (.Name "sum" p) [e] [] pos) (tM X.K ct W (mOpN oSum n)) :=
  me_callB (cr_sum hc) lift_sum hg hm (by decide +kernel) ha (by decide) (by decide) hs rfl
theorem me_max2 (hc : X.calm = true) (hg : Gl X "max") (hm : X.mg "max" = none) (ha : PA X [a, b] (tMA X.K ct W n)) (hs : starEach [a, b] X.env = (false, eval a X.env) :: starEach [b] X.env := by rfl) (hp : (backTo pos (starEach [b] X.env)).any (·.1) = false := by rfl) : PE X (.Call (.Name "max" p) [a, b] [] pos) (tM X.K ct W (mOpN oMax2 n)) :=
  me_callB (call_max2 hc) lift_max2 hg hm (by decide +kernel) ha (by decide) (by decide) hs hp
theorem me_min2 (hc : X.calm = true) (hg : Gl X "min") (hm : X.mg "min" = none) (ha : PA X [a, b] (tMA X.K ct W n)) (hs : starEach [a, b] X.env = (false, eval a X.env) :: starEach [b] X.env := by rfl) (hp : (backTo pos (starEach [b] X.env)).any (·.1) = false := by rfl) : PE X (.Call (.Name "min" p) [a, b] [] pos) (tM X.K ct W (mOpN oMin2 n)) :=
  me_callB (call_min2 hc) lift_min2 hg hm (by decide +kernel) ha (by decide) (by decide) hs hp
theorem me_divmod (hg : Gl X "divmod") (hm : X.mg "divmod" = none) (ha : PA X [a, b] (tMA X.K ct W n)) (hs : starEach [a, b] X.env = (false, eval a X.env) :: starEach [b] X.env := by rfl) (hp : (backTo pos (starEach [b] X.env)).any (·.1) = false := by rfl) : PE X (.Call (.Name "divmod" p) [a, b] [] pos) (tM X.K ct W (mOpN oDivmod n)) :=
  me_callB call_divmod lift_divmod hg hm (by decide +kernel) ha (by decide) (by decide) hs hp
theorem me_intC (hg : Gl X "int") (hm : X.mg "int" = none) (ha : PA X [e] (tMA X.K ct W n)) (hs : starEach [e] X.env = (false, eval e X.env) :: starEach [] X.env := by rfl) : PE X (.Call (.Name "int" p) [e] [] pos) (tM X.K ct W (mOpN oInt n)) :=
  me_callTy (cr_or call_int1 call_int_str) lift_int hg hm (by decide +kernel) ha (by decide) (by decide) hs rfl
end
end Mi
/-! The mirror layer: isinstance, sorted, list(..), joins, methods that change, dicts, what is walked, raise. -/
namespace Mi
open PySem L2
section
variable {K : PySem.W.Frag} {ct : Tb} {w w' : Wd}
theorem tyD_ok {S : Sto} {v : V} {d : D} {t : BT} (st : SR K ct w S) (r : RV K ct w v d) (h : tyD S d = some t) : TyX K w.H v (.type t.nm) := by
  cases r with
  | non => cases h; exact .base .non
  | bl => cases h; exact .base (.bl _)
  | int => cases h; exact .base (.int _)
  | str => cases h; exact .base (.str _)
  | tup hH _ => cases h; exact .base (.tup hH)
  | ktup _ _ => cases h
  | lst hq _ =>
    cases h
    rcases hq with ⟨_, hq | ⟨o, hq⟩⟩ | ⟨o, its, n, h1, h2, _⟩
    · exact .base (.lst hq)
    · exact .base (.frz hq)
    · exact .kList h1 h2
  | dct _ hH _ _ => cases h; exact .base (.dK hH)
  | obj _ _ _ _ _ => cases h
  | ref hi =>
    rename_i a i
    unfold tyD at h
    dsimp only at h
    split at h
    · rename_i ds e
      cases h
      obtain ⟨vs, h1, _⟩ := st.ob i a _ hi e
      exact .base (.lst h1)
    · rename_i ds e
      cases h
      obtain ⟨vs, h1, _⟩ := st.ob i a _ hi e
      exact .base (.dK h1)
    · rename_i ds e
      cases h
      obtain ⟨vs, h1, _⟩ := st.ob i a _ hi e
      exact .base (.dT h1)
    · cases h
theorem kitAny_isB {K : PySem.W.Frag} {t : BT} : ∀ Ts : List BT, PySem.W.kitAny K (.type t.nm) (Ts.map fun T => Value.type T.nm) = some (Ts.any (isB t))
  | [] => rfl
  | T :: Ts => by
    have h1 : PySem.W.kitOne K (.type t.nm) (.type T.nm) = some (isB t T) := kit_ty (kitB_isB t T)
    show PySem.W.kitAny K (.type t.nm) (Value.type T.nm :: Ts.map fun T => Value.type T.nm) = _
    unfold PySem.W.kitAny
    rw [h1]
    cases hb : isB t T with
    | true => simp [hb]
    | false => simp [hb, kitAny_isB Ts]
end
/-- the names of built-in classes, as arguments -/
structure BTs (X : Cx) (es : List Expr) (Ts : List BT) : Prop where
  pa : ∃ ta : TA, PA X es ta ∧ ∀ σ H (Q : List V → Hp → Prop), Q (Ts.map fun T => V.ty T.nm) H → ta σ H Q
section
variable {X : Cx} {ct : Tb} {W : WX} {e a b c : Expr} {es : List Expr} {pos p p2 p3 : Pos} {m : EM} {n : AM}
theorem bts_nil : BTs X [] [] := ⟨tNil, pa_nil, fun _ _ _ h => h⟩
theorem bts_cons {T : BT} {Ts : List BT} {x : Str} (hx : x = T.nm) (hg : Gl X x) (hm : X.mg x = none) (hv : bootBuiltins x = some (.type T.nm)) (h : BTs X es Ts) (hs : starEach (.Name x p :: es) X.env = (false, eval (.Name x p) X.env) :: starEach es X.env := by rfl)
    (hn : x ≠ "__name__" := by decide) (hdb : (x == ("__debug__" : Str)) = false := by decide) : BTs X (.Name x p :: es) (T :: Ts) := by
  obtain ⟨ta, h1, h2⟩ := h.pa
  exact ⟨_, pa_cons (pe_bltn (v := .ty T.nm) hg hm hv rfl hn hdb) h1 hs, fun σ H Q q => h2 σ H _ q⟩
theorem me_isi {T : BT} (hg : Gl X "isinstance") (hm : X.mg "isinstance" = none) (he : PE X e (tM X.K ct W m)) (hT : BTs X [b] [T]) (hs : starEach [e, b] X.env = (false, eval e X.env) :: starEach [b] X.env := by rfl) (hp : (backTo pos (starEach [b] X.env)).any (·.1) = false := by rfl) :
    PE X (.Call (.Name "isinstance" p) [e, b] [] pos) (tM X.K ct W (mIsi [T] m)) := by
  obtain ⟨ta, h1, h2⟩ := hT.pa
  refine pe_weak (pe_callB call_isi hg hm (by decide +kernel) (pa_cons he h1 hs) (by decide) (by decide) hs hp) fun σ H Q h => ?_
  obtain ⟨w, S, en, rfl, st, ev, h⟩ := h
  refine tG_bind st ev h fun dx S1 w1 x e1 st1 ev1 rx q => h2 _ _ _ ?_
  split at q
  · rename_i t et
    exact ⟨x, _, _, _, isB t T, rfl, .ty T.nm, tyD_ok st1 rx et, kit_ty (kitB_isB t T), by simpa using Wp.ret q st1 .bl⟩
  · exact q.elim
theorem me_isiT {Ts : List BT} {k : Nat} (hg : Gl X "isinstance") (hm : X.mg "isinstance" = none) (he : PE X e (tM X.K ct W m)) (hT : BTs X es Ts) (hz : Ts.length ≤ 20) (hs : starEach [e, .Tuple es k p3] X.env = (false, eval e X.env) :: starEach [.Tuple es k p3] X.env := by rfl) (hp : (backTo pos (starEach [.Tuple es k p3] X.env)).any (·.1) = false := by rfl)
    (hs2 : starEach [.Tuple es k p3] X.env = (false, eval (.Tuple es k p3) X.env) :: starEach [] X.env := by rfl) : PE X (.Call (.Name "isinstance" p) [e, .Tuple es k p3] [] pos) (tM X.K ct W (mIsi Ts m)) := by
  obtain ⟨ta, h1, h2⟩ := hT.pa
  refine pe_weak (pe_callB call_isiT hg hm (by decide +kernel) (pa_cons he (pa_cons (pe_tup h1) pa_nil hs2) hs) (by decide) (by decide) hs hp) fun σ H Q h => ?_
  obtain ⟨w, S, en, rfl, st, ev, h⟩ := h
  refine tG_bind st ev h fun dx S1 w1 x e1 st1 ev1 rx q => h2 _ _ _ ⟨by rw [List.length_map]; exact Nat.le_trans hz (by decide), fun t ht => ?_⟩
  split at q
  · rename_i ty et
    have x2 : XT X.K w1 (w1.put t (.tup (Ts.map fun T => V.ty T.nm))) := XT.new ht
    have s2 : SR X.K ct (w1.put t (.tup (Ts.map fun T => V.ty T.nm))) S1 := st1.new ht
    have r2 := rx.mono x2
    have pr : ∀ Ts : List BT, Paired ClsV (Ts.map fun T => V.ty T.nm) (Ts.map fun T => Value.type T.nm) := fun Ts => by
      induction Ts with
      | nil => exact .nil
      | cons T Ts ih => exact .cons (.ty _) ih
    exact ⟨x, t, Ts.map fun T => V.ty T.nm, _, _, Ts.any (isB ty), rfl, upd_same, pr Ts, tyD_ok s2 r2 et, kitAny_isB Ts, Wp.ret (q.mono x2) s2 .bl⟩
  · exact q.elim

/-! ### new lists -/
def sortI (ns : List Int) : List Int := ns.mergeSort (fun a b => decide (a ≤ b))
theorem sortI_unique {ns ms : List Int} (h : ms.Perm ns) (hp : ms.Pairwise (· ≤ ·)) : ms = sortI ns := by
  have h1 : (sortI ns).Perm ns := List.mergeSort_perm ns _
  have h2 : (sortI ns).Pairwise (· ≤ ·) := by
    have := List.pairwise_mergeSort (le := fun a b : Int => decide (a ≤ b)) (fun a b c h1 h2 => by simp at *; omega) (fun a b => by simp; omega) ns
    exact this.imp fun h => by simpa using h
  exact (h.trans h1.symm).eq_of_pairwise (fun a b _ _ h1 h2 => Int.le_antisymm h1 h2) hp h2
def lSortI (n : AM) : AM := fun en S => (n en S).bind fun xs S1 => match xs with
  | [x] => match asL S1 x with
    | some ds => match asInts ds with
      | some ns => .ok ((sortI ns).map D.int) S1
      | none => .bad
    | none => .bad
  | _ => .bad
theorem ml_sortI (hg : Gl X "sorted") (hm : X.mg "sorted" = none) (ha : PA X [e] (tMA X.K ct W n)) (hs : starEach [e] X.env = (false, eval e X.env) :: starEach [] X.env := by rfl) : PE X (.Call (.Name "sorted" p) [e] [] pos) (tML X.K ct W (lSortI n)) :=
  pe_weak (pe_callB cr_sortedI hg hm (by decide +kernel) ha (by decide) (by decide) hs rfl) fun σ H Q h => by
    obtain ⟨w, S, en, rfl, st, ev, h⟩ := h
    refine tG_bind st ev h fun ds S1 w1 x e1 st1 ev1 rx q => ?_
    split at q
    · split at q
      · split at q
        · rename_i hl _ _ hi
          obtain ⟨u, rfl, r1⟩ := rx.one
          obtain ⟨a, vs, rfl, h2, h3⟩ := st1.lst r1 hl
          rw [asInts_ok h3 hi] at h2
          refine ⟨a, _, rfl, h2, fun ns' t hp hw ht => ?_⟩
          rw [sortI_unique hp hw]
          obtain ⟨w2, e2, x2, s2, r2⟩ := mk_own st1 (RVs.ints _) ht
          rw [← e2]
          exact q w2 _ x2 s2 r2
        · exact q.elim
      · exact q.elim
    · exact q.elim
/-- list(x) of a list or tuple; of a dict: its keys -/
def kD : Key → D
  | .inl i => .int i
  | .inr x => .str x
def lList (n : AM) : AM := fun en S => (n en S).bind fun xs S1 => match xs with
  | [x] => match asSeq S1 x with
    | some ds => .ok ds S1
    | none => match asK S1 x with
      | some kds => .ok (kds.map fun p => kD p.1) S1
      | none => .bad
  | _ => .bad
theorem kD_ok {K : PySem.W.Frag} {w : Wd} : ∀ ks : List Key, RVs K ct w (ks.map kV) (ks.map kD)
  | [] => .nil
  | k :: ks => by
    refine .cons ?_ (kD_ok ks)
    cases k
    · exact .int
    · exact .str
theorem ml_list (hc : X.calm = true) (hg : Gl X "list") (hm : X.mg "list" = none) (ha : PA X [e] (tMA X.K ct W n)) (hs : starEach [e] X.env = (false, eval e X.env) :: starEach [] X.env := by rfl) : PE X (.Call (.Name "list" p) [e] [] pos) (tML X.K ct W (lList n)) :=
  pe_weak (pe_callTy (cr_or call_list_of (call_list_dK hc)) hg hm (by decide +kernel) ha (by decide) (by decide) hs rfl) fun σ H Q h => by
    obtain ⟨w, S, en, rfl, st, ev, h⟩ := h
    refine tG_bind st ev h fun ds S1 w1 x e1 st1 ev1 rx q => ?_
    split at q
    · split at q
      · rename_i hl
        obtain ⟨u, rfl, r1⟩ := rx.one
        obtain ⟨a, vs, rfl, h2, h3⟩ := st1.seq r1 hl
        refine .inl ⟨a, vs, rfl, h2, fun t ht => ?_⟩
        obtain ⟨w2, e2, x2, s2, r2⟩ := mk_own st1 h3 ht
        rw [← e2]
        exact q w2 _ x2 s2 r2
      · split at q
        · rename_i kds hl
          obtain ⟨u, rfl, r1⟩ := rx.one
          obtain ⟨a, vs, rfl, h2, h3⟩ := st1.dK r1 hl
          refine .inr ⟨a, vs, rfl, h2, fun t ht => ?_⟩
          have r3 : RVs X.K ct w1 (vs.map fun kv => kV kv.1) (kds.map fun p => kD p.1) := by
            have h4 := kD_ok (ct := ct) (K := X.K) (w := w1) (kds.map (·.1))
            rw [← h3.1] at h4
            rw [List.map_map] at h4
            have h5 : kds.map (fun p => kD p.1) = (vs.map (·.1)).map kD := by rw [h3.1, List.map_map]; rfl
            rw [h5]
            exact h4
          obtain ⟨w2, e2, x2, s2, r2⟩ := mk_own st1 r3 ht
          rw [← e2]
          exact q w2 _ x2 s2 r2
        · exact q.elim
    · exact q.elim
/-- list(d.items()) -/
def lItems (m : EM) : AM := fun en S => (m en S).bind fun x S1 => match asK S1 x with
  | some kds => .ok (kds.map fun p => .tup [kD p.1, p.2]) S1
  | none => .bad
theorem items_rel {K : PySem.W.Frag} {w w' : Wd} (hH : ∀ b o, w.H b = some o → w'.H b = some o) (hx : XT K w w') : ∀ {ts : List Addr} {kvs : List (Key × V)} {kds : List (Key × D)}, Paired (fun (t : Addr) (q : Key × V) => w'.H t = some (.tup [kV q.1, q.2])) ts kvs → RKs K ct w kvs kds → RVs K ct w' (ts.map V.ref) (kds.map fun p => .tup [kD p.1, p.2])
  | [], [], [], _, _ => .nil
  | t :: ts, q :: kvs, p :: kds, .cons h hr, ⟨h1, h2⟩ => by
    simp only [List.map_cons, List.cons.injEq] at h1
    obtain ⟨hk, h1⟩ := h1
    cases h2 with
    | cons rv rs =>
      refine .cons (.tup h (.cons ?_ (.cons (rv.mono hx) .nil))) (items_rel hH hx hr ⟨h1, rs⟩)
      rw [hk]
      cases p.1
      · exact .int
      · exact .str
  | [], [], _ :: _, _, h => absurd h.1 (by simp)
  | _ :: _, _ :: _, [], _, h => absurd h.1 (by simp)
theorem ml_items {apos cpos : Pos} (hc : X.calm = true) (he : PE X e (tM X.K ct W m)) (hg : Gl X "list") (hm : X.mg "list" = none) (hbase : attributeBase e "items" X.env (eval e X.env) = eval e X.env := by rfl) (hline : (apos.endLine == cpos.line) = true := by rfl)
    (hs : starEach [.Call (.Attribute e "items" apos) [] [] cpos] X.env = (false, eval (.Call (.Attribute e "items" apos) [] [] cpos) X.env) :: starEach [] X.env := by rfl) : PE X (.Call (.Name "list" p) [.Call (.Attribute e "items" apos) [] [] cpos] [] pos) (tML X.K ct W (lItems m)) :=
  pe_weak (LiI.pe_listItems hc he hg hm (by decide +kernel) hbase hline hs) fun σ H Q h => by
    obtain ⟨w, S, en, rfl, st, ev, h⟩ := h
    refine tG_bind st ev h fun dx S1 w1 x e1 st1 ev1 rx q => ?_
    split at q
    · rename_i kds hk
      obtain ⟨a, kvs, rfl, h2, h3⟩ := st1.dK rx hk
      refine ⟨a, kvs, rfl, h2, fun H' t ts kp ht hts hnt hl pr => ?_⟩
      let w2 : Wd := { w1 with H := H' }
      have x2 : XT X.K w1 w2 := ⟨List.prefix_rfl, fun _ h => h, fun b o h _ => kp b o h, fun b o _ h => kp b o h, fun b vs h => kp b _ h, fun _ h n => absurd h n, fun _ h n => absurd h n, rfl, fun b o _ h => kp b o h⟩
      have s2 : SR X.K ct w2 S1 := ⟨st1.len, st1.inj, st1.dis, fun i b o h1 h2 => (st1.ob i b o h1 h2).mono x2 (by
        obtain ⟨u, hu⟩ := st1.fρ b (List.mem_of_getElem? h1)
        show H' b = w1.H b
        rw [hu, kp b u hu]), fun b f => (st1.fin b f).elim fun o h => ⟨o, kp b o h⟩, fun b f => (st1.fρ b f).elim fun o h => ⟨o, kp b o h⟩, fun b f => (st1.fP b f).elim fun o h => ⟨o, kp b o h⟩⟩
      refine q w2 _ x2 s2 ⟨t, _, rfl, hl, items_rel (w := w1) (w' := w2) kp x2 pr h3, ht, fun f => ?_, fun f => ?_, fun f => ?_⟩
      · obtain ⟨o, e⟩ := st1.fin t f; rw [ht] at e; cases e
      · obtain ⟨o, e⟩ := st1.fρ t f; rw [ht] at e; cases e
      · obtain ⟨o, e⟩ := st1.fP t f; rw [ht] at e; cases e
    · exact q.elim
/-- xs + ys, a new list -/
def lCat (a b : EM) : AM := fun en S => (a en S).bind fun x S1 => (b en S1).bind fun y S2 => match asL S2 x, asL S2 y with
  | some i, some j => if i.length + j.length ≤ sizeLine then .ok (i ++ j) S2 else .bad
  | _, _ => .bad
theorem ml_cat {ma mb : EM} (ha : PE X a (tM X.K ct W ma)) (hb : PE X b (tM X.K ct W mb)) : PE X (.BinOp a .Add b pos) (tML X.K ct W (lCat ma mb)) := pe_weak (pe_op op_catL ha hb) fun σ H Q h => by
  obtain ⟨w, S, en, rfl, st, ev, h⟩ := h
  refine tG_bind st ev h fun dx S1 w1 x e1 st1 ev1 rx h1 => tG_bind st1 ev1 h1 fun dy S2 w2 y e2 st2 ev2 ry h2 => ?_
  split at h2
  · rename_i i j hi hj
    split at h2
    · rename_i hz
      obtain ⟨a, vs, rfl, ha, ra⟩ := st2.lst (rx.mono e2) hi
      obtain ⟨b, us, rfl, hb, rb⟩ := st2.lst ry hj
      refine ⟨a, b, vs, us, rfl, rfl, ha, hb, by rw [ra.length, rb.length]; exact hz, fun p hp => ?_⟩
      obtain ⟨w3, e3, x3, s3, r3⟩ := mk_own st2 (ra.append rb) hp
      rw [← e3]
      exact h2 w3 _ x3 s3 r3
    · exact h2.elim
  · exact h2.elim
/-- xs * k, xs a new list of the expression itself -/
def lRep (n : AM) (b : EM) : AM := fun en S => (n en S).bind fun xs S1 => (b en S1).bind fun y S2 => match y with
  | .int k => if -(2 ^ 63) ≤ k ∧ k < 2 ^ 63 ∧ xs.length * k.toNat ≤ sizeLine then .ok (List.replicate k.toNat xs).flatten S2 else .bad
  | _ => .bad
theorem RVs.rep {K : PySem.W.Frag} {w : Wd} {vs : List V} {ds : List D} (r : RVs K ct w vs ds) : ∀ n : Nat, RVs K ct w (List.replicate n vs).flatten (List.replicate n ds).flatten
  | 0 => .nil
  | n + 1 => by
    rw [List.replicate_succ, List.replicate_succ, List.flatten_cons, List.flatten_cons]
    exact r.append (RVs.rep r n)
theorem ml_rep {mb : EM} (ha : PE X a (tML X.K ct W n)) (hb : PE X b (tM X.K ct W mb)) : PE X (.BinOp a .Mult b pos) (tML X.K ct W (lRep n mb)) := pe_weak (pe_op op_rep ha hb) fun σ H Q h => by
  obtain ⟨w, S, en, rfl, st, ev, h⟩ := h
  refine tG_bind st ev h fun ds S1 w1 x e1 st1 ev1 rx h1 => ?_
  obtain ⟨a, vs, rfl, hH, rs, ow⟩ := rx
  refine tG_bind st1 ev1 h1 fun dy S2 w2 y e2 st2 ev2 ry h2 => ?_
  cases ry with
  | int =>
    dsimp only at h2
    split at h2
    · rename_i hz
      refine ⟨a, _, vs, rfl, rfl, e2.keep a _ hH ow.nρ, hz.1, hz.2.1, by rw [rs.length]; exact hz.2.2, fun p hp => ?_⟩
      obtain ⟨w3, e3, x3, s3, r3⟩ := mk_own st2 ((rs.mono e2).rep _) hp
      rw [← e3]
      exact h2 w3 _ x3 s3 r3
    · exact h2.elim
  | _ => exact h2.elim
/-- sep.join(xs) -/
def mJoin (a : EM) (n : AM) : EM := fun en S => (a en S).bind fun s S1 => match s with
  | .str z => (n en S1).bind fun xs S2 => match xs with
    | [x] => match asSeq S2 x with
      | some ds => match asStrs ds with
        | some ys => if (ys.map (·.length)).sum + ys.length * z.length ≤ 16777216 then .ok (.str (Txt.join z ys)) S2 else .bad
        | none => .bad
      | none => .bad
    | _ => .bad
  | _ => .bad
theorem me_join {ma : EM} {apos cpos : Pos} (ho : PE X a (tM X.K ct W ma)) (ha : PA X [e] (tMA X.K ct W n)) (hbase : attributeBase a "join" X.env (eval a X.env) = eval a X.env := by rfl) (hline : (apos.endLine == cpos.line) = true := by rfl)
    (hs : starEach [e] X.env = (false, eval e X.env) :: starEach [] X.env := by rfl) (h3 : ((backTo cpos (starEach [e] X.env)).all (fun x => !x.1) && (backToKw cpos (keywordEach [] X.env)).all (fun x => x.1.isSome)
    && decide (([e] : List Expr).length + ([] : List Keyword).length + (if ([] : List Keyword).isEmpty then 0 else 1) < 30)) = true := by rfl) : PE X (.Call (.Attribute a "join" apos) [e] [] cpos) (tM X.K ct W (mJoin ma n)) := by
  refine pe_weak (pe_bm PySem.F.plainAttrs_str PySem.F.slot_str_join PySem.F.type_str_join mt_join ho ha hbase h3 hline hs) fun σ H Q h => ?_
  obtain ⟨w, S, en, rfl, st, ev, h⟩ := h
  refine tG_bind st ev h fun dx S1 w1 x e1 st1 ev1 rx h1 => ?_
  cases rx with
  | str =>
    refine ⟨rfl, tG_bind st1 ev1 h1 fun ds S2 w2 xs e2 st2 ev2 rxs h2 => ?_⟩
    split at h2
    · split at h2
      · split at h2
        · split at h2
          · rename_i hsq _ ys hys hz
            obtain ⟨u, rfl, r1⟩ := rxs.one
            obtain ⟨a, vs, rfl, h4, h5⟩ := st2.seq r1 hsq
            rw [asStrs_ok h5 hys] at h4
            exact ⟨_, a, ys, rfl, rfl, h4, hz, Wp.ret h2 st2 .str⟩
          · exact h2.elim
        · exact h2.elim
      · exact h2.elim
    · exact h2.elim
  | _ => exact h1.elim
end
end Mi
/-! The mirror layer: methods that change, stores at places, dicts, what is walked, raise. -/
namespace Mi
open PySem L2

/-! ### methods of lists that change them -/
/-- the list of the store -/
def lstAt (S : Sto) : D → Option (Nat × List D)
  | .ref i => match S[i]? with
    | some (.lst ds) => some (i, ds)
    | _ => none
  | _ => none
def mAppend (o : EM) (n : AM) : EM := fun en S => (o en S).bind fun x S1 => match lstAt S1 x with
  | none => .bad
  | some _ => (n en S1).bind fun ys S2 => match lstAt S2 x, ys with
    | some (i, ds), [y] => if ds.length < sizeLine then .ok .non (S2.set i (.lst (ds ++ [y]))) else .bad
    | _, _ => .bad
def mLst0 (f : List D → List D) (o : EM) : EM := fun en S => (o en S).bind fun x S1 => match lstAt S1 x with
  | none => .bad
  | some (i, ds) => .ok .non (S1.set i (.lst (f ds)))
section
variable {K : PySem.W.Frag} {ct : Tb} {w w' : Wd}
theorem SR.lstAt {S : Sto} {v : V} {d : D} {i : Nat} {ds : List D} (st : SR K ct w S) (r : RV K ct w v d) (h : lstAt S d = some (i, ds)) : ∃ a vs, v = .ref a ∧ w.ρ[i]? = some a ∧ S[i]? = some (.lst ds) ∧ w.H a = some (.lst vs) ∧ RVs K ct w vs ds := by
  cases r with
  | ref hi =>
    rename_i a j
    unfold Mi.lstAt at h
    dsimp only at h
    split at h
    · rename_i ds' e
      cases h
      obtain ⟨vs, h1, h2⟩ := st.ob _ a _ hi e
      exact ⟨a, vs, rfl, hi, e, h1, h2⟩
    · cases h
  | _ => cases h
theorem lst_wr {S : Sto} {i : Nat} {a : Addr} {ds es : List D} {us : List V} (st : SR K ct w S) (hi : w.ρ[i]? = some a) (ho : S[i]? = some (.lst ds)) (r : RVs K ct w us es) : ∃ w', w'.H = upd w.H a (.lst us) ∧ XT K w w' ∧ SR K ct w' (S.set i (.lst es)) := by
  have x := XT.wr (u := .lst us) st hi ho nofun
  exact ⟨w.put a (.lst us), rfl, x, st.wr hi ho nofun ⟨us, upd_same, r.mono x⟩⟩
end
section
variable {X : Cx} {ct : Tb} {W : WX} {e o a b c : Expr} {es : List Expr} {pos p apos cpos : Pos} {m : EM} {n : AM}
theorem me_append (ho : PE X o (tM X.K ct W m)) (ha : PA X [e] (tMA X.K ct W n)) (hbase : attributeBase o "append" X.env (eval o X.env) = eval o X.env := by rfl) (hline : (apos.endLine == cpos.line) = true := by rfl)
    (hs : starEach [e] X.env = (false, eval e X.env) :: starEach [] X.env := by rfl) (h3 : ((backTo cpos (starEach [e] X.env)).all (fun x => !x.1) && (backToKw cpos (keywordEach [] X.env)).all (fun x => x.1.isSome)
    && decide (([e] : List Expr).length + ([] : List Keyword).length + (if ([] : List Keyword).isEmpty then 0 else 1) < 30)) = true := by rfl) : PE X (.Call (.Attribute o "append" apos) [e] [] cpos) (tM X.K ct W (mAppend m n)) := by
  refine pe_weak (pe_bm PySem.F.plainAttrs_list PySem.F.slot_list_append PySem.F.type_list_append mt_append ho ha hbase h3 hline hs) fun σ H Q h => ?_
  obtain ⟨w, S, en, rfl, st, ev, h⟩ := h
  refine tG_bind st ev h fun dx S1 w1 x e1 st1 ev1 rx h1 => ?_
  split at h1
  · exact h1.elim
  · rename_i q hq
    obtain ⟨i0, ds0⟩ := q
    obtain ⟨a, vs, rfl, hi, ho, hH, rs⟩ := st1.lstAt rx hq
    refine ⟨.inl ⟨rfl, vs, .of hH⟩, tG_bind st1 ev1 h1 fun ys S2 w2 xs e2 st2 ev2 rxs h2 => ?_⟩
    split at h2
    · rename_i i ds y hq2
      split at h2
      · rename_i hz
        obtain ⟨a2, vs2, ea, hi2, ho2, hH2, rs2⟩ := st2.lstAt (rx.mono e2) hq2
        cases ea
        obtain ⟨u, rfl, ru⟩ := rxs.one
        obtain ⟨w3, e3, x3, s3⟩ := lst_wr st2 hi2 ho2 (rs2.append (.cons ru .nil))
        refine ⟨a, vs2, u, rfl, rfl, hH2, by rw [rs2.length]; exact hz, ?_⟩
        rw [← e3]
        exact h2 w3 _ x3 s3 .non
      · exact h2.elim
    · exact h2.elim
theorem im_lst0 {r : V → List V → Hp → VK → Prop} {f : List D → List D} {g : List V → List V} (hr : ∀ (a : Addr) (vs : List V) (H : Hp) (Q : VK), H a = some (.lst vs) → Q .non (upd H a (.lst (g vs))) → r (.ref a) [] H Q) (hg : ∀ (w : Wd) vs ds, RVs X.K ct w vs ds → RVs X.K ct w (g vs) (f ds)) :
    ∀ σ H Q, tM X.K ct W (mLst0 f m) σ H Q → tBM0 X.K "list" r (tM X.K ct W m) σ H Q := fun σ H Q h => by
  obtain ⟨w, S, en, rfl, st, ev, h⟩ := h
  refine tG_bind st ev h fun dx S1 w1 x e1 st1 ev1 rx h1 => ?_
  split at h1
  · exact h1.elim
  · rename_i i ds hq
    obtain ⟨a, vs, rfl, hi, ho, hH, rs⟩ := st1.lstAt rx hq
    obtain ⟨w3, e3, x3, s3⟩ := lst_wr st1 hi ho (hg _ _ _ rs)
    refine ⟨.inl ⟨rfl, vs, .of hH⟩, hr a vs _ _ hH ?_⟩
    rw [← e3]
    exact h1 w3 _ x3 s3 .non
theorem me_clearL (ho : PE X o (tM X.K ct W m)) (hbase : attributeBase o "clear" X.env (eval o X.env) = eval o X.env := by rfl) (hline : (apos.endLine == cpos.line) = true := by rfl) : PE X (.Call (.Attribute o "clear" apos) [] [] cpos) (tM X.K ct W (mLst0 (fun _ => []) m)) :=
  pe_weak (pe_bm0 PySem.F.plainAttrs_list PySem.F.slot_list_clear PySem.F.type_list_clear mt_clear ho hbase hline) (im_lst0 (g := fun _ => []) (fun a vs H Q h q => ⟨a, vs, rfl, rfl, h, q⟩) fun _ _ _ _ => .nil)
theorem me_reverse (ho : PE X o (tM X.K ct W m)) (hbase : attributeBase o "reverse" X.env (eval o X.env) = eval o X.env := by rfl) (hline : (apos.endLine == cpos.line) = true := by rfl) : PE X (.Call (.Attribute o "reverse" apos) [] [] cpos) (tM X.K ct W (mLst0 List.reverse m)) :=
  pe_weak (pe_bm0 PySem.F.plainAttrs_list PySem.F.slot_list_reverse PySem.F.type_list_reverse mt_reverse ho hbase hline) (im_lst0 (g := List.reverse) (fun a vs H Q h q => ⟨a, vs, rfl, rfl, h, q⟩) fun _ _ _ r => r.reverse)
end

/-! ### dicts -/
def putD {κ : Type} [DecidableEq κ] (kvs : List (κ × D)) (k : κ) (v : D) : List (κ × D) := if (kvs.any fun kv => decide (kv.1 = k)) = true then kvs.map (fun kv => if kv.1 = k then (kv.1, v) else kv) else kvs ++ [(k, v)]
def mDct : EM := fun _ S => .ok (.ref S.length) (S ++ [.dct []])
def mDctT : EM := fun _ S => .ok (.ref S.length) (S ++ [.dcT []])
def dctPut (S : Sto) (d k v : D) : Option Sto := match d with
  | .ref i => match S[i]? with
    | some (.dct kds) => match asKey k with
      | some kk => if kds.length < sizeLine then some (S.set i (.dct (putD kds kk v))) else none
      | none => none
    | some (.dcT kds) => match k with
      | .tup ks => match asKeys ks with
        | some kk => if kds.length < sizeLine then some (S.set i (.dcT (putD kds kk v))) else none
        | none => none
      | _ => none
    | _ => none
  | _ => none
/-- d[k] = e -/
def sDput (md mk mv : EM) : SM := fun en S => (mv en S).then en fun v S1 => (md en S1).then en fun d S2 => (mk en S2).then en fun k S3 => match dctPut S3 d k v with
  | some S4 => .nx en S4
  | none => .bad
/-- d.get(k, x) -/
def mGet2 (md mk mx : EM) : EM := fun en S => (md en S).bind fun d S1 => match (asK S1 d).isSome || (asKT S1 d).isSome with
  | true => (mk en S1).bind fun k S2 => (mx en S2).bind fun x S3 => match dGet S3 d k with
    | some o => .ok (o.getD x) S3
    | none => .bad
  | false => .bad
def mGet1 (md mk : EM) : EM := fun en S => (md en S).bind fun d S1 => match (asK S1 d).isSome || (asKT S1 d).isSome with
  | true => (mk en S1).bind fun k S2 => match dGet S2 d k with
    | some o => .ok (o.getD .non) S2
    | none => .bad
  | false => .bad
/-- d.clear() -/
def mDclear (md : EM) : EM := fun en S => (md en S).bind fun d S1 => match d with
  | .ref i => match S1[i]? with
    | some (.dct _) => .ok .non (S1.set i (.dct []))
    | _ => .bad
  | _ => .bad
section
variable {K : PySem.W.Frag} {ct : Tb} {w w' : Wd}
theorem RKs.put {κ : Type} [DecidableEq κ] {kvs : List (κ × V)} {kds : List (κ × D)} {k : κ} {v : V} {d : D} (h : RKs K ct w kvs kds) (r : RV K ct w v d) : RKs K ct w (putK kvs k v) (putD kds k d) := by
  have e : (kvs.any fun kv => decide (kv.1 = k)) = (kds.any fun kv => decide (kv.1 = k)) := by
    have h1 : (kvs.map (·.1)).any (fun x => decide (x = k)) = (kds.map (·.1)).any (fun x => decide (x = k)) := by rw [h.1]
    simpa [List.any_map, Function.comp_def] using h1
  have key : ∀ (kvs : List (κ × V)) (kds : List (κ × D)), RKs K ct w kvs kds → RKs K ct w (kvs.map fun kv => if kv.1 = k then (kv.1, v) else kv) (kds.map fun kv => if kv.1 = k then (kv.1, d) else kv) := by
    intro kvs
    induction kvs with
    | nil =>
      intro kds h
      cases kds with
      | nil => exact ⟨rfl, .nil⟩
      | cons p r => exact absurd h.1 (by simp)
    | cons q kvs ih =>
      intro kds h
      cases kds with
      | nil => exact absurd h.1 (by simp)
      | cons p kds =>
        obtain ⟨h1, h2⟩ := h
        simp only [List.map_cons, List.cons.injEq] at h1
        obtain ⟨hk, h1⟩ := h1
        cases h2 with
        | cons rv rs =>
          obtain ⟨i1, i2⟩ := ih kds ⟨h1, rs⟩
          simp only [List.map_cons, hk]
          by_cases hp : p.1 = k
          · rw [if_pos hp, if_pos hp]
            exact ⟨by simp only [List.map_cons, i1], .cons r i2⟩
          · rw [if_neg hp, if_neg hp]
            exact ⟨by simp only [List.map_cons, i1, hk], .cons rv i2⟩
  unfold putK putD
  rw [e]
  by_cases hs : (kds.any fun kv => decide (kv.1 = k)) = true
  · rw [if_pos hs, if_pos hs]
    exact key _ _ h
  · rw [if_neg hs, if_neg hs]
    refine ⟨by simp [h.1], ?_⟩
    simp only [List.map_append, List.map_cons, List.map_nil]
    exact h.2.append (.cons r .nil)
end
end Mi
/-! The mirror layer: dicts stored and asked, stores at places, augmented stores, what is walked, raise. -/
namespace Mi
open PySem L2
section
variable {K : PySem.W.Frag} {ct : Tb} {w w' : Wd}
theorem mk_new {S : Sto} {p : Addr} {o : HO} {u : SO} (st : SR K ct w S) (hp : w.H p = none) (hu : ∀ w', w'.H p = some o → SOk K ct w' p u) : ∃ w', w'.H = upd w.H p o ∧ XT K w w' ∧ SR K ct w' (S ++ [u]) ∧ RV K ct w' (.ref p) (.ref S.length) := by
  let w1 := w.put p o
  have x1 : XT K w w1 := XT.new hp
  have s1 : SR K ct w1 S := st.new hp
  have nF : ¬ w1.F p := fun f => by obtain ⟨o, e⟩ := st.fin p f; rw [hp] at e; cases e
  have nρ : p ∉ w1.ρ := fun f => by obtain ⟨o, e⟩ := st.fρ p f; rw [hp] at e; cases e
  have nP : ¬ w1.P p := fun f => by obtain ⟨o, e⟩ := st.fP p f; rw [hp] at e; cases e
  refine ⟨w1.add p, rfl, x1.add ⟨hp, nF, nρ, nP⟩, s1.add nF nρ nP upd_same (hu _ upd_same), .ref ?_⟩
  show (w.ρ ++ [p])[S.length]? = some p
  rw [← st.len, List.getElem?_append_right (Nat.le_refl _)]
  simp
theorem dctPut_ok {S S' : Sto} {x y z : V} {d k v : D} (st : SR K ct w S) (rd : RV K ct w x d) (rk : RV K ct w y k) (rv : RV K ct w z v) (h : dctPut S d k v = some S') : ∃ a H' w', x = .ref a ∧ DPut w.H a y z H' ∧ w'.H = H' ∧ XT K w w' ∧ SR K ct w' S' := by
  unfold dctPut at h
  split at h
  · rename_i i
    cases rd with
    | ref hi =>
      rename_i a
      split at h
      · rename_i kds ho
        split at h
        · rename_i kk hk
          split at h
          · rename_i hz
            cases h
            obtain ⟨kvs, hH, rr⟩ := st.ob i a _ hi ho
            rw [asKey_ok rk hk]
            have hl : kvs.length < sizeLine := by have := rr.2.length; simp at this; omega
            have x := XT.wr (u := .dK (putK kvs kk z)) st hi ho nofun
            exact ⟨a, _, w.put a (.dK (putK kvs kk z)), rfl, DPut.k hH hl, rfl, x, st.wr hi ho nofun ⟨_, upd_same, (RKs.put rr rv).mono x⟩⟩
          · cases h
        · cases h
      · rename_i kds ho
        split at h
        · rename_i ks
          split at h
          · rename_i kk hk
            split at h
            · rename_i hz
              cases h
              obtain ⟨kvs, hH, rr⟩ := st.ob i a _ hi ho
              cases rk with
              | tup hb rs =>
                rw [asKeys_ok rs hk] at hb
                have hl : kvs.length < sizeLine := by have := rr.2.length; simp at this; omega
                have x := XT.wr (u := .dT (putK kvs kk z)) st hi ho nofun
                exact ⟨a, _, w.put a (.dT (putK kvs kk z)), rfl, DPut.t hH hb hl, rfl, x, st.wr hi ho nofun ⟨_, upd_same, (RKs.put rr rv).mono x⟩⟩
            · cases h
          · cases h
        · cases h
      · cases h
  · cases h
theorem isD_ok {S : Sto} {x : V} {d : D} (st : SR K ct w S) (rd : RV K ct w x d) (h : ((asK S d).isSome || (asKT S d).isSome) = true) : ∃ a, x = .ref a ∧ IsD w.H a := by
  cases e : asK S d with
  | some kds =>
    obtain ⟨a, vs, rfl, h1, _⟩ := st.dK rd e
    exact ⟨a, rfl, .inl ⟨vs, .inl h1⟩⟩
  | none =>
    rw [e] at h
    cases e2 : asKT S d with
    | none => rw [e2] at h; cases h
    | some kds =>
      obtain ⟨a, vs, rfl, h1, _⟩ := st.dT rd e2
      exact ⟨a, rfl, .inr ⟨vs, .inl h1⟩⟩
end
section
variable {X : Cx} {ct : Tb} {W : WX} {e o i a b c f : Expr} {es : List Expr} {pos p apos cpos pos' tpos : Pos} {m md mk mv mx : EM} {n : AM}
theorem me_dct : PE X (.Dict [] [] pos) (tM X.K ct W mDct) := pe_weak pe_dnewK fun σ H Q h => by
  obtain ⟨w, S, en, rfl, st, ev, h⟩ := h
  intro p hp
  obtain ⟨w2, e2, x2, s2, r2⟩ := mk_new (o := .dK []) (u := .dct []) st hp fun w' h => ⟨[], h, rfl, .nil⟩
  rw [← e2]
  exact h w2 _ x2 s2 r2
theorem me_dctT : PE X (.Dict [] [] pos) (tM X.K ct W mDctT) := pe_weak pe_dnewT fun σ H Q h => by
  obtain ⟨w, S, en, rfl, st, ev, h⟩ := h
  intro p hp
  obtain ⟨w2, e2, x2, s2, r2⟩ := mk_new (o := .dT []) (u := .dcT []) st hp fun w' h => ⟨[], h, rfl, .nil⟩
  rw [← e2]
  exact h w2 _ x2 s2 r2
theorem ms_dput {k : Nat} (hr : Room k X.A) (ho : PE X o (tM X.K ct W md)) (hi : PE X i (tM X.K ct W mk)) (hv : PE X e (tM X.K ct W mv)) (hs : swapsWith e (some (.Subscript o i pos')) pos.line X.env = pure false := by rfl) : PS X (.Assign [.Subscript o i pos'] e pos) (tS ct X.K W (sDput md mk mv)) :=
  ps_weak (ps_dput (hu_of hr) ho hi hv hs) fun D σ H h => by
    obtain ⟨w, S, en, rfl, st, ev, h⟩ := h
    refine tG_then st ev h fun v S1 w1 z e1 st1 ev1 r1 h1 => tG_then st1 ev1 h1 fun d S2 w2 x e2 st2 ev2 r2 h2 => tG_then st2 ev2 h2 fun kd S3 w3 y e3 st3 ev3 r3 h3 => ?_
    split at h3
    · rename_i S4 hp
      obtain ⟨a, H', w4, e4, dp, rfl, x4, s4⟩ := dctPut_ok st3 (r2.mono e3) r3 (r1.mono (e2.trans e3)) hp
      exact ⟨a, _, e4, dp, h3 w4 σ x4 s4 (ev3.mono x4)⟩
    · exact h3.elim
theorem me_get2 {k : Nat} (hr : Room k X.A) (ho : PE X o (tM X.K ct W md)) (he : PE X e (tM X.K ct W mk)) (hf : PE X f (tM X.K ct W mx)) (m : M2 X o "get" apos e f cpos := by exact ⟨rfl, rfl, rfl, rfl⟩) : PE X (.Call (.Attribute o "get" apos) [e, f] [] cpos) (tM X.K ct W (mGet2 md mk mx)) :=
  pe_weak (pe_dget2 (hu_of hr) ho he hf m) fun σ H Q h => by
    obtain ⟨w, S, en, rfl, st, ev, h⟩ := h
    refine tG_bind st ev h fun d S1 w1 x e1 st1 ev1 r1 h1 => ?_
    split at h1
    · rename_i hd
      obtain ⟨a, rfl, hD⟩ := isD_ok st1 r1 hd
      refine ⟨a, rfl, hD, tG_bind st1 ev1 h1 fun kd S2 w2 y e2 st2 ev2 r2 h2 => tG_bind st2 ev2 h2 fun xd S3 w3 z e3 st3 ev3 r3 h3 => ?_⟩
      split at h3
      · rename_i o ho
        obtain ⟨a', ov, ea, g, h4, h5⟩ := dGet_ok st3 (r1.mono (e2.trans e3)) (r2.mono e3) ho
        cases ea
        refine ⟨ov, g, ?_⟩
        cases o with
        | none => rw [h5 rfl]; exact Wp.ret h3 st3 r3
        | some d' =>
          obtain ⟨v', e', r'⟩ := h4 d' rfl
          rw [e']
          exact Wp.ret h3 st3 r'
      · exact h3.elim
    · exact h1.elim
theorem me_get1 {k : Nat} (hr : Room k X.A) (ho : PE X o (tM X.K ct W md)) (he : PE X e (tM X.K ct W mk)) (m : M1 X o "get" apos e cpos := by exact ⟨rfl, rfl, rfl, rfl⟩) : PE X (.Call (.Attribute o "get" apos) [e] [] cpos) (tM X.K ct W (mGet1 md mk)) :=
  pe_weak (pe_dget1 (hu_of hr) ho he m) fun σ H Q h => by
    obtain ⟨w, S, en, rfl, st, ev, h⟩ := h
    refine tG_bind st ev h fun d S1 w1 x e1 st1 ev1 r1 h1 => ?_
    split at h1
    · rename_i hd
      obtain ⟨a, rfl, hD⟩ := isD_ok st1 r1 hd
      refine ⟨a, rfl, hD, tG_bind st1 ev1 h1 fun kd S2 w2 y e2 st2 ev2 r2 h2 => ?_⟩
      split at h2
      · rename_i o ho
        obtain ⟨a', ov, ea, g, h4, h5⟩ := dGet_ok st2 (r1.mono e2) r2 ho
        cases ea
        refine ⟨ov, g, ?_⟩
        cases o with
        | none => rw [h5 rfl]; exact Wp.ret h2 st2 .non
        | some d' =>
          obtain ⟨v', e', r'⟩ := h4 d' rfl
          rw [e']
          exact Wp.ret h2 st2 r'
      · exact h2.elim
    · exact h1.elim
theorem me_clearD (ho : PE X o (tM X.K ct W md)) (hbase : attributeBase o "clear" X.env (eval o X.env) = eval o X.env := by rfl) (hline : (apos.endLine == cpos.line) = true := by rfl) : PE X (.Call (.Attribute o "clear" apos) [] [] cpos) (tM X.K ct W (mDclear md)) :=
  pe_weak (pe_dclear ho hbase hline) fun σ H Q h => by
    obtain ⟨w, S, en, rfl, st, ev, h⟩ := h
    refine tG_bind st ev h fun d S1 w1 x e1 st1 ev1 r1 h1 => ?_
    split at h1
    · rename_i j
      split at h1
      · rename_i kds hj
        cases r1 with
        | ref hi =>
          rename_i a
          obtain ⟨kvs, hH, rr⟩ := st1.ob j a _ hi hj
          have x := XT.wr (u := .dK []) st1 hi hj nofun
          exact ⟨.inr (.inr (.inl ⟨rfl, .inl ⟨kvs, hH⟩⟩)), a, kvs, rfl, rfl, hH, h1 (w1.put a (.dK [])) _ x (st1.wr hi hj nofun ⟨[], upd_same, rfl, .nil⟩) .non⟩
      · exact h1.elim
    · exact h1.elim
end
/-! ### stores at places of a list -/
def sLput (mo mi mv : EM) : SM := fun en S => (mv en S).then en fun v S1 => (mo en S1).then en fun o S2 => (mi en S2).then en fun k S3 => match lstAt S3 o, k with
  | some (i, ds), .int z => match ixN ds.length z with
    | some j => .nx en (S3.set i (.lst (ds.set j v)))
    | none => .bad
  | _, _ => .bad
/-- xs[i] op= e -/
def sLaug (g : Int → Int → Int) (mo mi mv : EM) : SM := fun en S => (mo en S).then en fun o S1 => (mi en S1).then en fun k S2 => match k with
  | .int z => match asL S2 o with
    | some ds => match atI ds z with
      | some (.int x) => if 0 ≤ z then (mv en S2).then en fun y S3 => match y, lstAt S3 o with
        | .int y, some (i, ds) => match ixN ds.length z with
          | some j => .nx en (S3.set i (.lst (ds.set j (.int (g x y)))))
          | none => .bad
        | _, _ => .bad
        else .bad
      | _ => .bad
    | none => .bad
  | _ => .bad
/-- x op= e -/
def sAug (i : Nat) (g : Int → Int → Int) (m : EM) : SM := fun en S => match en[i]? with
  | some (some (.int x)) => (m en S).then en fun y S1 => match y with
    | .int y => .nx (en.set i (some (.int (g x y)))) S1
    | _ => .bad
  | _ => .bad
theorem RV.intV {K : PySem.W.Frag} {ct : Tb} {w : Wd} {v : V} {i : Int} (r : RV K ct w v (.int i)) : v = .int i := by
  cases r
  rfl
section
variable {X : Cx} {ct : Tb} {W : WX} {e o i a b c f : Expr} {es : List Expr} {pos p apos cpos pos' tpos : Pos} {m mo mi mv : EM} {n : AM}
theorem ms_lput (ho : PE X o (tM X.K ct W mo)) (hi : PE X i (tM X.K ct W mi)) (hv : PE X e (tM X.K ct W mv)) (hs : swapsWithSole [.Subscript o i pos'] e pos.line X.env = pure false := by rfl) (hw : swappedStores [.Subscript o i pos'] e X.env = pure none := by rfl)
    (h1 : (assignEach [.Subscript o i pos'] X.env).map (·.2) = [assign (.Subscript o i pos') X.env] := by rfl)
    (ha : ∀ v, assign (.Subscript o i pos') X.env v = (do
      let ov ← holding [v] (eval o X.env)
      let iv ← holding [v, ov] (eval i X.env)
      standAt pos'
      holding [v, ov, iv] (setItem ov iv v)
      release [v, ov, iv] []) := by intro _; rfl) : PS X (.Assign [.Subscript o i pos'] e pos) (tS ct X.K W (sLput mo mi mv)) :=
  ps_weak (ps_asg hv (pg_sub ho hi set_list ha) hs hw h1) fun D σ H h => by
    obtain ⟨w, S, en, rfl, st, ev, h⟩ := h
    refine tG_then st ev h fun v S1 w1 z e1 st1 ev1 r1 h1 => tG_then st1 ev1 h1 fun d S2 w2 x e2 st2 ev2 r2 h2 => tG_then st2 ev2 h2 fun kd S3 w3 y e3 st3 ev3 r3 h3 => ?_
    split at h3
    · rename_i j ds iz hl
      split at h3
      · rename_i jj hj
        obtain ⟨a, vs, rfl, hi, ho, hH, rs⟩ := st3.lstAt (r2.mono e3) hl
        rw [r3.intV]
        obtain ⟨w4, e4, x4, s4⟩ := lst_wr st3 hi ho (RVs.set (r1.mono (e2.trans e3)) jj rs)
        refine ⟨a, vs, iz, jj, rfl, rfl, hH, by rw [rs.length]; exact hj, ?_⟩
        rw [← e4]
        exact h3 w4 σ x4 s4 (ev3.mono x4)
      · exact h3.elim
    · exact h3.elim
def rGetP (K : PySem.W.Frag) : V → V → Hp → VK → Prop := fun o i H Q => ∃ p xs k v, o = .ref p ∧ i = .int k ∧ 0 ≤ k ∧ SqL K H p xs ∧ atI xs k = some v ∧ Q v H
theorem pget_list : PGet X (rGetP X.K) := by
  intro pins s σ H o i ov iv Q I ro ri h
  obtain ⟨p, xs, k, v, rfl, rfl, h0, hq, ha, q⟩ := h
  cases ro
  obtain ⟨t, rfl⟩ := ri
  obtain ⟨its, r, pl, hz⟩ := I.list hq
  have hl := r.length
  have hn := line63
  obtain ⟨j, h1, h2, h3, h4, h5⟩ := atI_get ha
  obtain ⟨u, ew, rw'⟩ := r.get h2
  have hj : k.toNat = j := by
    rw [seqIndex_of h0 h5] at h1
    exact Option.some.inj h1
  exact wpAny_getItem_list pl.isList h0 (by omega) (by rw [hj]; simpa using ew) ⟨v, H, I, rw', q⟩
theorem ms_laug {op : Operator} {g : Int → Int → Int} (ho : PE X o (tM X.K ct W mo)) (hi : PE X i (tM X.K ct W mi)) (hv : PE X e (tM X.K ct W mv)) (hp : PIp X op (ipI g))
    (ha : ∀ ov iv new, augStore i ov iv new = (do holding [new, ov, iv] (setItem ov iv new); release [new, ov, iv] []; pure .next) := by intros; rfl) : PS X (.AugAssign (.Subscript o i tpos) op e pos) (tS ct X.K W (sLaug g mo mi mv)) :=
  ps_weak (ps_augS ho hi pget_list hv hp set_list ha) fun D σ H h => by
    obtain ⟨w, S, en, rfl, st, ev, h⟩ := h
    refine tG_then st ev h fun d S1 w1 x e1 st1 ev1 r1 h1 => tG_then st1 ev1 h1 fun kd S2 w2 y e2 st2 ev2 r2 h2 => ?_
    split at h2
    · rename_i z
      rw [r2.intV]
      split at h2
      · rename_i ds hl
        split at h2
        · rename_i xi hx
          obtain ⟨a, vs, rfl, h4, h5⟩ := st2.lst (r1.mono e2) hl
          obtain ⟨v', e', r'⟩ := atI_rel h5 hx
          split at h2
          · rename_i h0
            refine ⟨a, vs, z, v', rfl, rfl, h0, h4, e', tG_then st2 ev2 h2 fun yd S3 w3 y3 e3 st3 ev3 r3 h3 => ?_⟩
            split at h3
            · rename_i yi j ds3 hl3
              split at h3
              · rename_i jj hj
                obtain ⟨a3, vs3, ea, hi, ho, hH, rs⟩ := st3.lstAt (r1.mono (e2.trans e3)) hl3
                cases ea
                rw [r3.intV, r'.intV]
                obtain ⟨w4, e4, x4, s4⟩ := lst_wr st3 hi ho (RVs.set (.int (i := g xi yi)) jj rs)
                refine ⟨xi, yi, rfl, rfl, a, vs3, z, jj, rfl, rfl, hH, by rw [rs.length]; exact hj, ?_⟩
                rw [← e4]
                exact h3 w4 σ x4 s4 (ev3.mono x4)
              · exact h3.elim
            · exact h3.elim
          · exact h2.elim
        · exact h2.elim
      · exact h2.elim
    · exact h2.elim
theorem ms_aug {j : Nat} {x : Str} {op : Operator} {g : Int → Int → Int} (hN : X.N.Nodup) (hi : X.N[j]? = some x) (hx : Loc X.env.scope x) (ho : PIp X op (ipI g)) (he : PE X e (tM X.K ct W m)) (hf : X.fn x = true ∨ X.env.scope.names.lookup x = some .local := by first | exact .inl rfl | exact .inr rfl | assumption) :
    PS X (.AugAssign (.Name x pos') op e pos) (tS ct X.K W (sAug j g m)) := ps_weak (ps_aug hN hi hx he ho hf) fun D σ H h => by
  obtain ⟨w, S, en, rfl, st, ev, h⟩ := h
  unfold sAug at h
  split at h
  · rename_i x hx
    obtain ⟨v, h1, h2⟩ := ev.2 j _ hx
    rw [h2.intV] at h1
    refine ⟨.int x, h1, tG_then st ev h fun y S1 w1 z e1 st1 ev1 r1 q => ?_⟩
    split at q
    · rename_i yi
      rw [r1.intV]
      exact ⟨x, yi, rfl, rfl, q w1 _ (XT.refl w1) st1 (ev1.set .int)⟩
    · exact q.elim
  · exact h.elim
end
end Mi
/-! The mirror layer: what is walked, raise. -/
namespace Mi
open PySem L2

mutual
def beqD : D → D → Bool
  | .non, .non => true
  | .bl a, .bl b => a == b
  | .int a, .int b => a == b
  | .str a, .str b => decide (a = b)
  | .tup a, .tup b => beqDs a b
  | .ktup a, .ktup b => beqDs a b
  | .lst a, .lst b => beqDs a b
  | .dct a, .dct b => beqKs a b
  | .obj c a, .obj d b => c == d && beqFs a b
  | .ref a, .ref b => a == b
  | _, _ => false
def beqDs : List D → List D → Bool
  | [], [] => true
  | a :: as, b :: bs => beqD a b && beqDs as bs
  | _, _ => false
def beqKs : List (Key × D) → List (Key × D) → Bool
  | [], [] => true
  | (k, a) :: as, (l, b) :: bs => decide (k = l) && beqD a b && beqKs as bs
  | _, _ => false
def beqFs : List (Nat × D) → List (Nat × D) → Bool
  | [], [] => true
  | (k, a) :: as, (l, b) :: bs => k == l && beqD a b && beqFs as bs
  | _, _ => false
end
mutual
theorem beqD_eq : ∀ {a b : D}, beqD a b = true → a = b
  | .non, b, h => by cases b <;> first | rfl | (unfold beqD at h; cases h)
  | .bl a, b, h => by cases b <;> first | (unfold beqD at h; simpa using h) | (unfold beqD at h; cases h)
  | .int a, b, h => by cases b <;> first | (unfold beqD at h; simpa using h) | (unfold beqD at h; cases h)
  | .str a, b, h => by cases b <;> first | (unfold beqD at h; simpa using h) | (unfold beqD at h; cases h)
  | .tup a, b, h => by cases b <;> first | (unfold beqD at h; rw [beqDs_eq h]) | (unfold beqD at h; cases h)
  | .ktup a, b, h => by cases b <;> first | (unfold beqD at h; rw [beqDs_eq h]) | (unfold beqD at h; cases h)
  | .lst a, b, h => by cases b <;> first | (unfold beqD at h; rw [beqDs_eq h]) | (unfold beqD at h; cases h)
  | .dct a, b, h => by cases b <;> first | (unfold beqD at h; rw [beqKs_eq h]) | (unfold beqD at h; cases h)
  | .obj c a, b, h => by
    cases b <;> first | (unfold beqD at h; cases h; done) | skip
    unfold beqD at h
    simp only [Bool.and_eq_true, beq_iff_eq] at h
    rw [h.1, beqFs_eq h.2]
  | .ref a, b, h => by cases b <;> first | (unfold beqD at h; simpa using h) | (unfold beqD at h; cases h)
theorem beqDs_eq : ∀ {a b : List D}, beqDs a b = true → a = b
  | [], [], _ => rfl
  | a :: as, b :: bs, h => by
    unfold beqDs at h
    simp only [Bool.and_eq_true] at h
    rw [beqD_eq h.1, beqDs_eq h.2]
  | [], _ :: _, h => by unfold beqDs at h; cases h
  | _ :: _, [], h => by unfold beqDs at h; cases h
theorem beqKs_eq : ∀ {a b : List (Key × D)}, beqKs a b = true → a = b
  | [], [], _ => rfl
  | (k, a) :: as, (l, b) :: bs, h => by
    unfold beqKs at h
    simp only [Bool.and_eq_true, decide_eq_true_eq] at h
    rw [h.1.1, beqD_eq h.1.2, beqKs_eq h.2]
  | [], _ :: _, h => by unfold beqKs at h; cases h
  | _ :: _, [], h => by unfold beqKs at h; cases h
theorem beqFs_eq : ∀ {a b : List (Nat × D)}, beqFs a b = true → a = b
  | [], [], _ => rfl
  | (k, a) :: as, (l, b) :: bs, h => by
    unfold beqFs at h
    simp only [Bool.and_eq_true, beq_iff_eq] at h
    rw [h.1.1, beqD_eq h.1.2, beqFs_eq h.2]
  | [], _ :: _, h => by unfold beqFs at h; cases h
  | _ :: _, [], h => by unfold beqFs at h; cases h
end
mutual
theorem beqD_refl : ∀ a : D, beqD a a = true
  | .non => by unfold beqD; rfl
  | .bl a => by unfold beqD; simp
  | .int a => by unfold beqD; simp
  | .str a => by unfold beqD; simp
  | .tup a => by unfold beqD; exact beqDs_refl a
  | .ktup a => by unfold beqD; exact beqDs_refl a
  | .lst a => by unfold beqD; exact beqDs_refl a
  | .dct a => by unfold beqD; exact beqKs_refl a
  | .obj c a => by unfold beqD; simp [beqFs_refl a]
  | .ref a => by unfold beqD; simp
theorem beqDs_refl : ∀ a : List D, beqDs a a = true
  | [] => by unfold beqDs; rfl
  | a :: as => by unfold beqDs; simp [beqD_refl a, beqDs_refl as]
theorem beqKs_refl : ∀ a : List (Key × D), beqKs a a = true
  | [] => by unfold beqKs; rfl
  | (k, a) :: as => by unfold beqKs; simp [beqD_refl a, beqKs_refl as]
theorem beqFs_refl : ∀ a : List (Nat × D), beqFs a a = true
  | [] => by unfold beqFs; rfl
  | (k, a) :: as => by unfold beqFs; simp [beqD_refl a, beqFs_refl as]
end
/-- a thing that is walked stays what it is -/
def stays (d : D) (ds : List D) (S : Sto) : Bool := match d with
  | .ref i => match S[i]? with
    | some (.lst es) => beqDs es ds
    | _ => false
  | _ => true
def iSeq (m : EM) : IM := fun en S => (m en S).bind fun d S1 => match asSeq S1 d with
  | some ds => .ok (ds, stays d ds) S1
  | none => match d with
    | .str z => .ok (z.cps.toList.map fun c => .str ⟨#[c]⟩, fun _ => true) S1
    | _ => .bad
def rng (lo c : Int) (n : Nat) : List D := (List.range n).map fun (i : Nat) => D.int (lo + (i : Int) * c)
def iRange1 (n : AM) : IM := fun en S => (n en S).bind fun xs S1 => match xs with
  | [.int j] => if -(2 ^ 62) ≤ j ∧ j < 2 ^ 62 then .ok (rng 0 1 j.toNat, fun _ => true) S1 else .bad
  | _ => .bad
def iRange2 (n : AM) : IM := fun en S => (n en S).bind fun xs S1 => match xs with
  | [.int i, .int j] => if -(2 ^ 62) ≤ i ∧ i < 2 ^ 62 ∧ -(2 ^ 62) ≤ j ∧ j < 2 ^ 62 then .ok (rng i 1 (j - i).toNat, fun _ => true) S1 else .bad
  | _ => .bad
/-- range(a, b, -1) -/
def iRangeD (n : AM) : IM := fun en S => (n en S).bind fun xs S1 => match xs with
  | [.int i, .int j, .int c] => if c = -1 ∧ -(2 ^ 62) ≤ i ∧ i < 2 ^ 62 ∧ -(2 ^ 62) ≤ j ∧ j < 2 ^ 62 then .ok (rng i (-1) (i - j).toNat, fun _ => true) S1 else .bad
  | _ => .bad
def enumD (ds : List D) : List D := (List.range ds.length).map fun (i : Nat) => D.tup [.int (i : Int), ds.getD i .non]
def iEnumD (n : AM) : IM := fun en S => (n en S).bind fun xs S1 => match xs with
  | [x] => match asL S1 x with
    | some ds => .ok (enumD ds, stays x ds) S1
    | none => .bad
  | _ => .bad
def zipD (a b : List D) : List D := (List.range (min a.length b.length)).map fun (i : Nat) => D.tup [a.getD i .non, b.getD i .non]
def iZipD (n : AM) : IM := fun en S => (n en S).bind fun xs S1 => match xs with
  | [x, y] => match asT x, asT y with
    | some a, some b => .ok (zipD a b, fun _ => true) S1
    | _, _ => match asL S1 x, asL S1 y with
      | some a, some b => .ok (zipD a b, fun S => stays x a S && stays y b S) S1
      | _, _ => .bad
  | _ => .bad
section
variable {K : PySem.W.Frag} {ct : Tb} {w w' : Wd}
/-- a list that is walked, as it stays -/
theorem stays_ok {S1 S : Sto} {w1 w : Wd} {v : V} {d : D} {ds : List D} (st1 : SR K ct w1 S1) (r : RV K ct w1 v d) (h : asL S1 d = some ds) {a : Addr} {vs : List V} (hv : v = .ref a) (hl : SqL K w1.H a vs) (rs : RVs K ct w1 vs ds) (x : XT K w1 w) (st : SR K ct w S) (hc : stays d ds S = true) : ∃ us, SqL K w.H a us ∧ RVs K ct w us ds := by
  cases r with
  | lst q r2 =>
    cases hv
    unfold asL at h
    cases h
    rcases q with ⟨f, q⟩ | q
    · rename_i vs2
      exact ⟨vs2, .inl (x.rdF f q), r2.mono x⟩
    · exact ⟨_, .inr q, r2.mono x⟩
  | ref hi =>
    cases hv
    unfold stays at hc
    dsimp only at hc
    split at hc
    · rename_i es e
      obtain ⟨us, h1, h2⟩ := st.ob _ a _ (x.get hi) e
      rw [beqDs_eq hc] at h2
      exact ⟨us, .of h1, h2⟩
    · cases hc
  | _ => cases h
theorem walk_any_list {a : Addr} {n : Nat} : Walk (Itl K a) n (fun H => ∃ us : List V, SqL K H a us ∧ us.length = n) (fun i H x H' => H' = H ∧ ∀ us, SqL K H a us → us[i]? = some x) :=
  ⟨fun i _ hi ⟨us, q, e⟩ => ⟨us, us[i]'(by omega), q, by simp [show i < us.length by omega]⟩, fun _ ⟨us, q, e⟩ => ⟨us, q, by omega⟩, fun _ _ _ _ _ q y => ⟨y.1, fun us h => y.2 us h⟩⟩
theorem walk_any_enum {a : Addr} {n : Nat} : Walk (Ite K a) n (fun H => ∃ us : List V, SqL K H a us ∧ us.length = n) (fun i H v H' => ∃ T x, v = .ref T ∧ H T = none ∧ H' = upd H T (.tup [.int (i : Nat), x]) ∧ ∀ us, SqL K H a us → us[i]? = some x) :=
  ⟨fun i _ hi ⟨us, q, e⟩ => ⟨us, us[i]'(by omega), q, by simp [show i < us.length by omega]⟩, fun _ ⟨us, q, e⟩ => ⟨us, q, by omega⟩, fun _ _ _ _ _ q y => y⟩
theorem walk_any_zip {a b : Addr} {n m : Nat} : Walk (Itz K a b) (min n m) (fun H => (∃ us : List V, SqL K H a us ∧ us.length = n) ∧ ∃ us : List V, SqL K H b us ∧ us.length = m) (fun i H v H' => ∃ T x y, v = .ref T ∧ H T = none ∧ H' = upd H T (.tup [x, y]) ∧ (∀ us, SqL K H a us → us[i]? = some x) ∧ ∀ us, SqL K H b us → us[i]? = some y) :=
  ⟨fun i _ hi ⟨⟨us, q, e⟩, us2, q2, e2⟩ => ⟨us, us2, us[i]'(by omega), us2[i]'(by omega), q, q2, by simp [show i < us.length by omega], by simp [show i < us2.length by omega]⟩, fun _ ⟨⟨us, q, e⟩, us2, q2, e2⟩ => ⟨us, us2, q, q2, by omega⟩, fun _ _ _ _ _ q y => y⟩
theorem walk_any_zipT {a b : Addr} {n m : Nat} : Walk (RZ.ItzT K a b) (min n m) (fun H => (∃ us : List V, SqT K H a us ∧ us.length = n) ∧ ∃ us : List V, SqT K H b us ∧ us.length = m) (fun i H v H' => ∃ T x y, v = .ref T ∧ H T = none ∧ H' = upd H T (.tup [x, y]) ∧ (∀ us, SqT K H a us → us[i]? = some x) ∧ ∀ us, SqT K H b us → us[i]? = some y) :=
  ⟨fun i _ hi ⟨⟨us, q, e⟩, us2, q2, e2⟩ => ⟨us, us2, us[i]'(by omega), us2[i]'(by omega), q, q2, by simp [show i < us.length by omega], by simp [show i < us2.length by omega]⟩, fun _ ⟨⟨us, q, e⟩, us2, q2, e2⟩ => ⟨us, us2, q, q2, by omega⟩, fun _ _ _ _ _ q y => y⟩
theorem itok_list {S1 : Sto} {v : V} {d : D} {ds : List D} {a : Addr} {vs : List V} (st1 : SR K ct w S1) (r : RV K ct w v d) (h : asL S1 d = some ds) (hv : v = .ref a) (hl : SqL K w.H a vs) (rs : RVs K ct w vs ds) : ItOk K ct w (Itl K a) ds (stays d ds) := by
  refine ⟨_, _, walk_any_list, fun w2 S2 x s hc => ?_, fun w2 S2 i y H' x s hc hi hy => ?_⟩
  · obtain ⟨us, h1, h2⟩ := stays_ok st1 r h hv hl rs x s hc
    exact ⟨us, h1, h2.length⟩
  · obtain ⟨us, h1, h2⟩ := stays_ok st1 r h hv hl rs x s hc
    obtain ⟨e, hy⟩ := hy
    subst e
    obtain ⟨d', e1, e2⟩ := h2.get' (hy us h1)
    exact ⟨w2, d', rfl, XT.refl w2, s, e1, e2⟩
theorem sqT_stay {v : V} {d : D} {ds : List D} (r : RV K ct w v d) (h : asT d = some ds) (x : XT K w w') : ∃ a vs, v = .ref a ∧ SqT K w'.H a vs ∧ RVs K ct w' vs ds := by
  exact (r.mono x).tupD h
theorem itok_tup {v : V} {d : D} {ds : List D} {a : Addr} {vs : List V} (r : RV K ct w v d) (h : asT d = some ds) (hv : v = .ref a) : ItOk K ct w (Itt K a) ds (fun _ => true) := by
  refine ⟨fun H => ∃ us : List V, SqT K H a us ∧ us.length = ds.length, fun i H x H' => H' = H ∧ ∀ us, SqT K H a us → us[i]? = some x, ⟨fun i _ hi ⟨us, q, e⟩ => ⟨us, us[i]'(by omega), q, by simp [show i < us.length by omega]⟩, fun _ ⟨us, q, e⟩ => ⟨us, q, by omega⟩, fun _ _ _ _ _ q y => ⟨y.1, fun us h => y.2 us h⟩⟩, fun w2 S2 x s hc => ?_, fun w2 S2 i y H' x s hc hi hy => ?_⟩
  · obtain ⟨a', us, e, h1, h2⟩ := sqT_stay r h x
    rw [hv] at e
    cases e
    exact ⟨us, h1, h2.length⟩
  · obtain ⟨a', us, e, h1, h2⟩ := sqT_stay r h x
    rw [hv] at e
    cases e
    obtain ⟨e, hy⟩ := hy
    subst e
    obtain ⟨d', e1, e2⟩ := h2.get' (hy us h1)
    exact ⟨w2, d', rfl, XT.refl w2, s, e1, e2⟩
theorem rng_len (lo c : Int) (n : Nat) : (rng lo c n).length = n := by simp [rng]
theorem rng_get (lo c : Int) (n i : Nat) (h : i < n) : (rng lo c n)[i]? = some (.int (lo + (i : Int) * c)) := by simp [rng, h]
theorem itok_fn {J : It} {n : Nat} {f : Nat → V} {ds : List D} (wk : Walk J n (fun _ => True) (YFn f)) (hl : ds.length = n) (hd : ∀ i, i < n → ∃ d, ds[i]? = some d ∧ ∀ w, RV K ct w (f i) d) : ItOk K ct w J ds (fun _ => true) := by
  subst hl
  refine ⟨_, _, wk, fun _ _ _ _ _ => trivial, fun w2 S2 i y H' x s hc hi hy => ?_⟩
  obtain ⟨e, rfl⟩ := hy
  subst e
  obtain ⟨d, h1, h2⟩ := hd i hi
  exact ⟨w2, d, rfl, XT.refl w2, s, h1, h2 w2⟩
end
section
variable {X : Cx} {ct : Tb} {W : WX} {tg e a b c : Expr} {es : List Expr} {pos p tpos : Pos} {m : EM} {n : AM}
theorem pi_weak {t t' : TI} {iter : Expr} (h : PI X tg iter t) (i : ∀ σ H R, t' σ H R → t σ H R) : PI X tg iter t' := ⟨fun pins s σ H R I q => h.run pins s σ H R I (i σ H R q)⟩
theorem pi_or {t t' : TI} {iter : Expr} (h : PI X tg iter t) (h' : PI X tg iter t') : PI X tg iter (fun σ H R => t σ H R ∨ t' σ H R) := ⟨fun pins s σ H R I q => q.elim (h.run pins s σ H R I) (h'.run pins s σ H R I)⟩
theorem mi_seq (he : PE X e (tM X.K ct W m)) : PI X tg e (tMI X.K ct W (iSeq m)) := pi_weak (pi_or (pi_list he) (pi_or (pi_tup he) (pi_str he))) fun σ H R h => by
  obtain ⟨w, S, en, rfl, st, ev, h⟩ := h
  cases em : m en S with
  | bad => unfold iSeq at h; rw [em] at h; exact h.elim
  | exc x S1 =>
    refine .inl ⟨w, S, en, rfl, st, ev, ?_⟩
    unfold iSeq at h
    rw [em] at h ⊢
    exact h
  | ok d S1 =>
    cases hs : asT d with
    | some ds =>
      refine .inr (.inl ⟨w, S, en, rfl, st, ev, ?_⟩)
      unfold iSeq at h
      rw [em] at h ⊢
      intro w1 v x1 st1 r
      have h1 := Wp.mono x1 h
      have e1 : asSeq S1 d = some ds := by unfold asSeq; rw [hs]
      dsimp only [Rs.bind] at h1
      rw [e1] at h1
      obtain ⟨a, vs, rfl, h2, h3⟩ := RV.tupD (r : RV X.K ct w1 v d) hs
      refine ⟨a, rfl, ⟨vs, h2⟩, h1 w1 _ (XT.refl w1) st1 ?_⟩
      have := itok_tup (vs := vs) (r : RV X.K ct w1 _ d) hs rfl
      refine (?_ : ItOk X.K ct w1 (Itt X.K a) ds (stays d ds))
      have e2 : stays d ds = fun _ => true := by
        funext S
        cases d <;> first | rfl | cases hs
      rw [e2]
      exact this
    | none =>
      have e1 : asSeq S1 d = asL S1 d := by unfold asSeq; rw [hs]
      cases hl : asL S1 d with
      | some ds =>
        refine .inl ⟨w, S, en, rfl, st, ev, ?_⟩
        unfold iSeq at h
        rw [em] at h ⊢
        intro w1 v x1 st1 r
        have h1 := Wp.mono x1 h
        dsimp only [Rs.bind] at h1
        rw [e1, hl] at h1
        obtain ⟨a, vs, rfl, h2, h3⟩ := st1.lst r hl
        exact ⟨a, rfl, ⟨vs, h2⟩, h1 w1 _ (XT.refl w1) st1 (itok_list st1 r hl rfl h2 h3)⟩
      | none =>
        refine .inr (.inr ⟨w, S, en, rfl, st, ev, ?_⟩)
        unfold iSeq at h
        rw [em] at h ⊢
        intro w1 v x1 st1 r
        have h1 := Wp.mono x1 h
        dsimp only [Rs.bind] at h1
        rw [e1, hl] at h1
        dsimp only at h1
        split at h1
        · rename_i z
          have r : RV X.K ct w1 v (.str z) := r
          cases r
          refine ⟨z, rfl, h1 w1 _ (XT.refl w1) st1 ?_⟩
          refine (?_ : ItOk X.K ct w1 (Its z) (z.cps.toList.map fun c => .str ⟨#[c]⟩) fun _ => true)
          have hlen : (z.cps.toList.map fun c => D.str ⟨#[c]⟩).length = z.cps.size := by simp
          refine ⟨fun _ => True, fun i H v H' => H' = H ∧ ∃ c, z.cps[i]? = some c ∧ v = .str ⟨#[c]⟩, by rw [hlen]; exact walk_str, fun _ _ _ _ _ => trivial, fun w2 S2 i y H' x s hc hi hy => ?_⟩
          obtain ⟨e, c, h5, h6⟩ := hy
          subst e h6
          exact ⟨w2, .str ⟨#[c]⟩, rfl, XT.refl w2, s, by simp [h5], .str⟩
        · exact h1.elim
theorem mi_range1 (hg : Gl X "range") (hm : X.mg "range" = none) (ha : PA X [a] (tMA X.K ct W n)) (hs : starEach [a] X.env = [(false, eval a X.env)] := by rfl) : PI X tg (.Call (.Name "range" p) [a] [] pos) (tMI X.K ct W (iRange1 n)) := pi_weak (pi_range1 hg hm ha hs) fun σ H R h => by
  obtain ⟨w, S, en, rfl, st, ev, h⟩ := h
  refine tG_bind st ev h fun ds S1 w1 vs e1 st1 ev1 r h1 => ?_
  split at h1
  · rename_i j
    split at h1
    · rename_i hj
      obtain ⟨u, rfl, ru⟩ := r.one
      rw [ru.intV]
      refine ⟨j, rfl, hj.1, hj.2, h1 w1 _ (XT.refl w1) st1 (itok_fn walk_range (rng_len _ _ _) fun i hi => ⟨_, rng_get _ _ _ _ hi, fun w => ?_⟩)⟩
      rw [Int.mul_one]
      exact .int
    · exact h1.elim
  · exact h1.elim
theorem mi_range2 (hg : Gl X "range") (hm : X.mg "range" = none) (ha : PA X [a, b] (tMA X.K ct W n)) (hs : starEach [a, b] X.env = [(false, eval a X.env), (false, eval b X.env)] := by rfl) (hs2 : starEach [b] X.env = [(false, eval b X.env)] := by rfl) : PI X tg (.Call (.Name "range" p) [a, b] [] pos) (tMI X.K ct W (iRange2 n)) := pi_weak (pi_range2 hg hm ha hs hs2) fun σ H R h => by
  obtain ⟨w, S, en, rfl, st, ev, h⟩ := h
  refine tG_bind st ev h fun ds S1 w1 vs e1 st1 ev1 r h1 => ?_
  split at h1
  · rename_i i j
    split at h1
    · rename_i hj
      obtain ⟨u, v, rfl, ru, rv⟩ := r.two
      rw [ru.intV, rv.intV]
      refine ⟨i, j, rfl, hj, h1 w1 _ (XT.refl w1) st1 (itok_fn walk_range (rng_len _ _ _) fun i hi => ⟨_, rng_get _ _ _ _ hi, fun w => ?_⟩)⟩
      rw [Int.mul_one]
      exact .int
    · exact h1.elim
  · exact h1.elim
theorem mi_rangeD (hg : Gl X "range") (hm : X.mg "range" = none) (ha : PA X [a, b, c] (tMA X.K ct W n)) (hs : starEach [a, b, c] X.env = (false, eval a X.env) :: starEach [b, c] X.env := by rfl) (hs2 : (backTo pos (starEach [b, c] X.env)).any (·.1) = false := by rfl) : PI X tg (.Call (.Name "range" p) [a, b, c] [] pos) (tMI X.K ct W (iRangeD n)) := pi_weak (pi_range3 hg hm ha hs hs2) fun σ H R h => by
  obtain ⟨w, S, en, rfl, st, ev, h⟩ := h
  refine tG_bind st ev h fun ds S1 w1 vs e1 st1 ev1 r h1 => ?_
  split at h1
  · rename_i i j k
    split at h1
    · rename_i hj
      obtain ⟨rfl, h2, h3, h4, h5⟩ := hj
      have : vs = [.int i, .int j, .int (-1)] := by
        cases r with
        | cons r1 r => cases r with
          | cons r2 r => cases r with
            | cons r3 r => cases r; rw [r1.intV, r2.intV, r3.intV]
      subst this
      exact ⟨i, j, -1, _, rfl, RgC.neg h2 h3 h4 h5, h1 w1 _ (XT.refl w1) st1 (itok_fn walk_rangeC (rng_len _ _ _) fun i hi => ⟨_, rng_get _ _ _ _ hi, fun w => .int⟩)⟩
    · exact h1.elim
  · exact h1.elim
theorem mi_enum {elts : List Expr} {kk : Nat} (hg : Gl X "enumerate") (hm : X.mg "enumerate" = none) (ha : PA X [e] (tMA X.K ct W n)) (hs : starEach [e] X.env = [(false, eval e X.env)] := by rfl) : PI X (.Tuple elts kk tpos) (.Call (.Name "enumerate" p) [e] [] pos) (tMI X.K ct W (iEnumD n)) := pi_weak (pi_enum hg hm ha hs) fun σ H R h => by
  obtain ⟨w, S, en, rfl, st, ev, h⟩ := h
  refine tG_bind st ev h fun xs S1 w1 vs e1 st1 ev1 r h1 => ?_
  split at h1
  · rename_i x
    split at h1
    · rename_i ds hl
      obtain ⟨u, rfl, ru⟩ := r.one
      obtain ⟨a, vs, rfl, h2, h3⟩ := st1.lst ru hl
      refine ⟨a, vs, rfl, h2, h1 w1 _ (XT.refl w1) st1 ?_⟩
      have hlen : (enumD ds).length = ds.length := by simp [enumD]
      refine (?_ : ItOk X.K ct w1 (Ite X.K a) (enumD ds) (stays x ds))
      refine ⟨_, _, by rw [hlen]; exact walk_any_enum, fun w2 S2 x2 s hc => ?_, fun w2 S2 i y H' x2 s hc hi hy => ?_⟩
      · obtain ⟨us, q1, q2⟩ := stays_ok st1 ru hl rfl h2 h3 x2 s hc
        exact ⟨us, q1, q2.length⟩
      · obtain ⟨us, q1, q2⟩ := stays_ok st1 ru hl rfl h2 h3 x2 s hc
        obtain ⟨T, z, rfl, hT, rfl, hz⟩ := hy
        obtain ⟨d', e5, e6⟩ := q2.get' (hz us q1)
        obtain ⟨w3, e7, x3, s3, r3⟩ := mk_tup (vs := [.int (i : Nat), z]) s (.cons .int (.cons e6 .nil)) hT
        refine ⟨w3, _, e7, x3, s3, ?_, r3⟩
        have hi2 : i < ds.length := by rw [hlen] at hi; exact hi
        have e8 : ds.getD i .non = d' := by rw [List.getD_eq_getElem?_getD, e5]; rfl
        have e9 : ds[i] = d' := by rw [List.getElem?_eq_getElem hi2] at e5; exact Option.some.inj e5
        simp [enumD, hi2, e9]
    · exact h1.elim
  · exact h1.elim
theorem mi_zip {elts : List Expr} {kk : Nat} (hg : Gl X "zip") (hm : X.mg "zip" = none) (ha : PA X [a, b] (tMA X.K ct W n)) (hs : starEach [a, b] X.env = (false, eval a X.env) :: starEach [b] X.env := by rfl) (hpl : (backTo pos (starEach [b] X.env)).any (·.1) = false := by rfl) : PI X (.Tuple elts kk tpos) (.Call (.Name "zip" p) [a, b] [] pos) (tMI X.K ct W (iZipD n)) := pi_weak (RZ.pi_zipA hg hm ha hs hpl) fun σ H R h => by
  obtain ⟨w, S, en, rfl, st, ev, h⟩ := h
  refine tG_bind st ev h fun xs S1 w1 vs e1 st1 ev1 r h1 => ?_
  split at h1
  · rename_i x y
    split at h1
    · rename_i as bs hl hl2
      obtain ⟨u, v, rfl, ru, rv⟩ := r.two
      obtain ⟨a, vs, rfl, h2, h3⟩ := ru.tupD hl
      obtain ⟨b, us, rfl, h4, h5⟩ := rv.tupD hl2
      refine ⟨a, b, vs, us, rfl, .inr ⟨h2, h4, h1 w1 _ (XT.refl w1) st1 ?_⟩⟩
      have hlen : (zipD as bs).length = min as.length bs.length := by simp [zipD]
      refine (?_ : ItOk X.K ct w1 (RZ.ItzT X.K a b) (zipD as bs) (fun _ => true))
      refine ⟨_, _, by rw [hlen]; exact walk_any_zipT (n := as.length) (m := bs.length), fun w2 S2 x2 s hc => ?_, fun w2 S2 i z H' x2 s hc hi hy => ?_⟩
      · obtain ⟨a', us, e, q1, q2⟩ := sqT_stay ru hl x2
        obtain ⟨b', us', e', q1', q2'⟩ := sqT_stay rv hl2 x2
        cases e
        cases e'
        exact ⟨⟨us, q1, q2.length⟩, us', q1', q2'.length⟩
      · obtain ⟨a', us, e, q1, q2⟩ := sqT_stay ru hl x2
        obtain ⟨b', us', e', q1', q2'⟩ := sqT_stay rv hl2 x2
        cases e
        cases e'
        obtain ⟨T, z1, z2, rfl, hT, rfl, hz1, hz2⟩ := hy
        obtain ⟨d1, e5, e6⟩ := q2.get' (hz1 us q1)
        obtain ⟨d2, e5', e6'⟩ := q2'.get' (hz2 us' q1')
        obtain ⟨w3, e7, x3, s3, r3⟩ := mk_tup (vs := [z1, z2]) s (.cons e6 (.cons e6' .nil)) hT
        refine ⟨w3, _, e7, x3, s3, ?_, r3⟩
        have hi2 : i < min as.length bs.length := by rw [hlen] at hi; exact hi
        have i1 : i < as.length := by omega
        have i2 : i < bs.length := by omega
        unfold zipD
        rw [List.getElem?_map, List.getElem?_range hi2]
        simp [e5, e5']
    · split at h1
      · rename_i as bs hl hl2
        obtain ⟨u, v, rfl, ru, rv⟩ := r.two
        obtain ⟨a, vs, rfl, h2, h3⟩ := st1.lst ru hl
        obtain ⟨b, us, rfl, h4, h5⟩ := st1.lst rv hl2
        refine ⟨a, b, vs, us, rfl, .inl ⟨h2, h4, h1 w1 _ (XT.refl w1) st1 ?_⟩⟩
        have hlen : (zipD as bs).length = min as.length bs.length := by simp [zipD]
        refine (?_ : ItOk X.K ct w1 (Itz X.K a b) (zipD as bs) (fun S => stays x as S && stays y bs S))
        refine ⟨_, _, by rw [hlen]; exact walk_any_zip (n := as.length) (m := bs.length), fun w2 S2 x2 s hc => ?_, fun w2 S2 i z H' x2 s hc hi hy => ?_⟩
        · simp only [Bool.and_eq_true] at hc
          obtain ⟨us, q1, q2⟩ := stays_ok st1 ru hl rfl h2 h3 x2 s hc.1
          obtain ⟨us', q1', q2'⟩ := stays_ok st1 rv hl2 rfl h4 h5 x2 s hc.2
          exact ⟨⟨us, q1, q2.length⟩, us', q1', q2'.length⟩
        · simp only [Bool.and_eq_true] at hc
          obtain ⟨us, q1, q2⟩ := stays_ok st1 ru hl rfl h2 h3 x2 s hc.1
          obtain ⟨us', q1', q2'⟩ := stays_ok st1 rv hl2 rfl h4 h5 x2 s hc.2
          obtain ⟨T, z1, z2, rfl, hT, rfl, hz1, hz2⟩ := hy
          obtain ⟨d1, e5, e6⟩ := q2.get' (hz1 us q1)
          obtain ⟨d2, e5', e6'⟩ := q2'.get' (hz2 us' q1')
          obtain ⟨w3, e7, x3, s3, r3⟩ := mk_tup (vs := [z1, z2]) s (.cons e6 (.cons e6' .nil)) hT
          refine ⟨w3, _, e7, x3, s3, ?_, r3⟩
          have hi2 : i < min as.length bs.length := by rw [hlen] at hi; exact hi
          have i1 : i < as.length := by omega
          have i2 : i < bs.length := by omega
          unfold zipD
          rw [List.getElem?_map, List.getElem?_range hi2]
          simp [e5, e5']
      · exact h1.elim
  · exact h1.elim
/-- an own exception class without an own __init__ -/
structure ExC (K : PySem.W.Frag) (mg : Str → Option Value) (ct : Tb) (x : Str) (c : Nat) : Prop where
  q : PySem.W.excIn K (ct.c c) [.type "ValueError", .type "Exception", .type "BaseException", .type "object"] "ValueError.__new__" = true
  g : mg x = some (.ref (ct.c c))
  k : PySem.W.keepIn K (.ref (ct.c c)) = true
  b : PySem.W.subIn K (.ref (ct.c c)) (.type "BaseException") = some true
  t : PySem.W.typeIn K (.ref (ct.c c)) = some (.type "type")
def sRaise (c : Nat) : SM := fun en S => .exc ⟨c, []⟩ en S
theorem ms_raise {x m : Str} {j c : Nat} {p p2 pos2 : Pos} (T : ExC X.K X.mg ct x c) (hc : X.calm = true) (tk : Takes X W) (hg : Gl X x) (hdb : (x == ("__debug__" : Str)) = false := by decide) : PS X (.Raise (some (.Call (.Name x p) [.Constant (.str m) j p2] [] pos)) none pos2) (tS ct X.K W (sRaise c)) :=
  ps_weak (ps_raise hc tk (pmk_own PySem.F.excBase_ValueError T.q T.g T.k (raises_own T.b T.t) hg hdb)) fun D σ H h => by
    obtain ⟨w, S, en, rfl, st, ev, h⟩ := h
    exact h w σ _ _ (XT.refl w) st ev ⟨rfl, .inl ⟨rfl, rfl⟩⟩
end
end Mi
/-! The mirror layer: comprehensions as they stand in a text; a def's facts. -/
namespace Mi
open PySem L2
section
variable {X : Cx} {ct : Tb} {W : WX} {elt tg iter e : Expr} {ifs : List Expr} {pos spos p : Pos}
/-- tests of a comprehension -/
structure MTs (X : Cx) (ct : Tb) (ifs : List Expr) (t : TM) : Prop where
  run : PTs X ifs (tMT X.K ct wF t)
theorem mts_nil : MTs X ct [] mYes := ⟨⟨fun pins s σ H Q I h => pts_nil.run pins s σ H Q I (by
  obtain ⟨w, S, en, rfl, st, ev, h⟩ := h
  exact Wp.retB h st)⟩⟩
theorem mts_one {c : Expr} {t : TM} (h : PT X c (tMT X.K ct wF t)) : MTs X ct [c] t := ⟨pts_one h⟩
theorem ml_comp {scope : Scope} {own : List (Str × Nat)} {t : TG} {g : Tg} {mi : IM} {m : TM} {n : EM} (hc : X.calm = true) (hN : X.N.Nodup) (hi : PI X tg iter (tMI X.K ct W mi)) (ok : BlkOk X.N X.env.scope scope own)
    (hg : ∀ (s : Shared) (H : Hp) (C : Addr) (cl : List (Str × Addr)) (fp : List Addr), PG (X.blk s H scope (compEnvC scope cl C X.env) fp) tg t) (lg : LiftG X.K ct t g) (hsl : ∀ i ∈ g.sl, i ∈ own.map (·.2))
    (ht : ∀ (s : Shared) (H : Hp) (C : Addr) (cl : List (Str × Addr)) (fp : List Addr), MTs (X.blk s H scope (compEnvC scope cl C X.env) fp) ct ifs m)
    (he : ∀ (s : Shared) (H : Hp) (C : Addr) (cl : List (Str × Addr)) (fp : List Addr), PE (X.blk s H scope (compEnvC scope cl C X.env) fp) elt (tM X.K ct wF n)) (hs : ∀ x, foldedSetIterable iter X.env x = pure x := by intro _; rfl) :
    PE X (.ListComp elt [⟨tg, iter, ifs, 0⟩] scope pos) (tML X.K ct W (lComp mi g m n (own.map (·.2)))) :=
  pe_weak (pe_lc hc hN hi ok hg (fun s H C cl fp => (ht s H C cl fp).run) he hs) (im_comp (fun _ _ _ h => h) lg hsl (fun _ _ _ h => h) (fun _ _ _ h => h))
/-- name = [..] -/
theorem ms_setLc {scope : Scope} {own : List (Str × Nat)} {t : TG} {g : Tg} {mi : IM} {m : TM} {n : EM} {i : Nat} {y : Str} {py : Pos} {q : EM} (hq : ∀ te : TE, (∀ σ H Q, tML X.K ct W (lComp mi g m n (own.map (·.2))) σ H Q → te σ H Q) → ∀ σ H Q, tM X.K ct W q σ H Q → te σ H Q)
    (hc : X.calm = true) (hN : X.N.Nodup) (hy : X.N[i]? = some y) (hyl : X.env.scope.names.lookup y = some .local)
    (hsw : swapsWith (.ListComp elt [⟨tg, iter, ifs, 0⟩] scope pos) (some (.Name y py)) spos.line X.env = pure true) (hi : PI X tg iter (tMI X.K ct W mi)) (ok : BlkOk X.N X.env.scope scope own)
    (hg : ∀ (s : Shared) (H : Hp) (C : Addr) (cl : List (Str × Addr)) (fp : List Addr), PG (X.blk s H scope (compEnvC scope cl C X.env) fp) tg t) (lg : LiftG X.K ct t g) (hsl : ∀ i ∈ g.sl, i ∈ own.map (·.2))
    (ht : ∀ (s : Shared) (H : Hp) (C : Addr) (cl : List (Str × Addr)) (fp : List Addr), MTs (X.blk s H scope (compEnvC scope cl C X.env) fp) ct ifs m)
    (he : ∀ (s : Shared) (H : Hp) (C : Addr) (cl : List (Str × Addr)) (fp : List Addr), PE (X.blk s H scope (compEnvC scope cl C X.env) fp) elt (tM X.K ct wF n)) (hs : ∀ x, foldedSetIterable iter X.env x = pure x := by intro _; rfl) :
    PS X (.Assign [.Name y py] (.ListComp elt [⟨tg, iter, ifs, 0⟩] scope pos) spos) (tS ct X.K W (sAsg (.nm i) q)) :=
  ps_weak (ps_setLc hc hN hy hyl hsw hi ok hg (fun s H C cl fp => (ht s H C cl fp).run) he hs) (im_asg (hq _ (im_comp (fun _ _ _ h => h) lg hsl (fun _ _ _ h => h) (fun _ _ _ h => h))) lg_name)
theorem cv_frz {n : AM} : ∀ te : TE, (∀ σ H Q, tML X.K ct W n σ H Q → te σ H Q) → ∀ σ H Q, tM X.K ct W (mFrz n) σ H Q → te σ H Q := fun te i σ H Q h => i σ H Q (by
  obtain ⟨w, S, en, rfl, st, ev, h⟩ := h
  refine tG_bind0 st ev h fun ds S1 w1 v e1 st1 ev1 rx h1 => ?_
  obtain ⟨w2, e2, x2, s2, r2⟩ := own_frz e1 st1 rx
  rw [← e2]
  exact h1 w2 _ x2 s2 r2)
theorem cv_new {n : AM} : ∀ te : TE, (∀ σ H Q, tML X.K ct W n σ H Q → te σ H Q) → ∀ σ H Q, tM X.K ct W (mNew n) σ H Q → te σ H Q := fun te i σ H Q h => i σ H Q (by
  obtain ⟨w, S, en, rfl, st, ev, h⟩ := h
  refine tG_bind0 st ev h fun ds S1 w1 v e1 st1 ev1 rx h1 => ?_
  obtain ⟨w2, e2, x2, s2, r2⟩ := own_new e1 st1 rx
  rw [← e2]
  exact h1 w2 _ x2 s2 r2)
end
section
variable {P : Program} {w : World} {K : PySem.W.Frag} {mg : Str → Option Value} {base : Heap} {ct : Tb}
theorem fn_of_fun {x qual : Str} {st : Stmt} {f : Addr} {fd : FuncData} {ps : List Str} {k : Nat} {m : FM} (F : Fun K x qual st f fd) (g : mg x = some (.ref f)) (b : Binds K fd ps [])
    (h : FnOk P w K mg base (L2.CX P w) k f fd ps (spM K ct m)) : Fn P w K mg base ct x k m [] := ⟨f, fd, ps, [], [], g, F.kp, b, .nil, fun _ => .nil, h⟩
theorem mt_of_fun {x qual : Str} {st : Stmt} {f : Addr} {fd : FuncData} {ps : List Str} {k c : Nat} {m : FM} (F : Fun K x qual st f fd) (M : Meth K (ct.c c) x f) (b : Binds K fd ps [])
    (h : FnOk P w K mg base (L2.CX P w) k f fd ps (spM K ct m)) : Mt P w K mg base ct c x k m [] := ⟨f, fd, ps, [], [], M, b, .nil, fun _ => .nil, h⟩
theorem Fn.mono {x : Str} {j k : Nat} {m : FM} {dds : List D} (h : Fn P w K mg base ct x j m dds) (hk : j ≤ k) : Fn P w K mg base ct x k m dds := by
  obtain ⟨f, fd, ps, ds, dvs, h1, h2, h3, h4, h5, h6⟩ := h.ex
  exact ⟨f, fd, ps, ds, dvs, h1, h2, h3, h4, h5, h6.mono hk⟩
theorem Mt.mono {x : Str} {c j k : Nat} {m : FM} {dds : List D} (h : Mt P w K mg base ct c x j m dds) (hk : j ≤ k) : Mt P w K mg base ct c x k m dds := by
  obtain ⟨f, fd, ps, ds, dvs, h1, h3, h4, h5, h6⟩ := h.ex
  exact ⟨f, fd, ps, ds, dvs, h1, h3, h4, h5, h6.mono hk⟩
theorem Mkr.mono {x : Str} {c j k : Nat} {m : FM} {dds : List D} (h : Mkr P w K mg base ct x c j m dds) (hk : j ≤ k) : Mkr P w K mg base ct x c k m dds := by
  obtain ⟨f, fd, ps, ds, dvs, h1, h2, h3, h4, h5, h6, h7⟩ := h.ex
  exact ⟨f, fd, ps, ds, dvs, h1, h2, h3, h4, h5, h6, h7.mono hk⟩
end
end Mi
/-! The mirror layer: sets of ints, made of a list: sorted, counted. -/
namespace Mi
open PySem L2 PySem.Spec PyProof.Rows
/-- the heap with a new set, that is empty -/
abbrev hpS (w : World) (h : Heap) : Heap := h.push { cls := .type "set", dict := none, data := .set #[] 0 (.fresh 0 0 (!w.params.followText "set-order")) }
section
variable {P : Program} {w : World} {A : Around} {E : Value → Shared → Prop} {s : Shared}
/-- what stands behind set(xs) of a list of ints -/
def MadeS (w : World) (s : Shared) (ns : List Int) (s2 : Shared) : Prop := ∃ h' tk c, s2 = { s with heap := h', toks := tk } ∧ SetR w h' s.heap.objs.size (fun j => decide (j ∈ ns)) c ∧ c ≤ ns.length ∧ ∀ b o, s.heap.get? b = some o → h'.get? b = some o
theorem made_init {l : Addr} {items : Array Value} {ns : List Int} (hh : A.handled = none) (hl : s.heap.IsList l items) (hit : IntsAre items.toList ns) (hb : ns.length + 1 < scanBound) :
    wpAny (model P w) A.in1.in1 (Builtin.«set.__init__» ⟨[.ref s.heap.objs.size, .ref l], []⟩) (fun fin s' => match fin with
      | Fin.done f => wants (fun r s2 => r = Value.none ∧ MadeS w s ns s2) E (Except.ok f) s'
      | Fin.again c' => c'.quiet = true ∧ codeAny (model P w) A.in1 c' (wants (fun r s2 => r = Value.none ∧ MadeS w s ns s2) E) s') (fun e s' => wants (fun r s2 => r = Value.none ∧ MadeS w s ns s2) E (Except.error e) s') { s with heap := hpS w s.heap } := by
  have hisz : items.size = ns.length := (Array.length_toList (xs := items)).symm.trans (IntsAre.length hit)
  obtain ⟨⟨ocls, odict, odata, oslots⟩, hol, hcl, nl, hdl⟩ := hl
  dsimp only at hcl hdl
  subst hcl hdl
  have hS : (hpS w s.heap).get? s.heap.objs.size = some { cls := .type "set", dict := none, data := .set #[] 0 (.fresh 0 0 (!w.params.followText "set-order")) } := Heap.get?_push_size _ rfl
  have hol' := Heap.get?_push_of_some { cls := .type "set", dict := none, data := .set #[] 0 (.fresh 0 0 (!w.params.followText "set-order")) } hol
  have f1 := F.sub_list_set
  have f2 := F.sub_list_frozenset
  have f3 : (Value.type "list" == Value.type "dict") = false := by decide
  have hl1 : (hpS w s.heap).IsList l items := ⟨_, hol', rfl, nl, rfl⟩
  unfold Builtin.«set.__init__» noKeywords Builtin.Frozenset.updateFrom
  generalize hPI : pyIter = PI
  wp_walk
  subst hPI
  refine wpAny_pyIter_list hl1 (wpAny_bind (wpAny_runValue ?_))
  have hls : l < s.heap.objs.size := Heap.lt_size hol
  have z1 : (hpS w s.heap).objs.size = s.heap.objs.size + 1 := Heap.size_push ..
  have hne : l ≠ (hpS w s.heap).objs.size := by rw [z1]; exact Nat.ne_of_lt (Nat.lt_succ_of_lt hls)
  have hmem : s.heap.objs.size ∉ [(hpS w s.heap).objs.size, l] := fun h => by
    rcases List.mem_cons.mp h with e | e
    · rw [z1] at e; exact Nat.ne_of_lt (Nat.lt_succ_self _) e
    · exact Nat.ne_of_gt hls (List.mem_singleton.mp e)
  have hval : ∀ (i : Nat) (v : Value), items[i]? = some v → ∃ k t, ns[i]? = some k ∧ v = .int k t := fun i v hv => by
    have hi : i < ns.length := hisz ▸ (Array.getElem?_eq_some_iff.mp hv).1
    obtain ⟨t, e⟩ := IntsAre.int_at hit i v (by rw [Array.getElem?_toList]; exact hv)
    exact ⟨ns[i], t, List.getElem?_eq_getElem hi, by rw [e, List.getD_eq_getElem?_getD, List.getElem?_eq_getElem hi]; rfl⟩
  have hh3 : A.handled = none := hh
  refine set_update_ints ((Walks.list (by simp [hh]) _ l hne items).toS) s.heap.objs.size hmem ns hisz hb hval (items.size - 0) 0 _ (by omega) (Nat.zero_le _)
    ⟨⟨_, Heap.get?_push_size _ rfl, rfl, rfl⟩, hl1.push _⟩ ⟨0, Nat.le_refl 0, setR_new_at (Heap.get?_push_of_some _ hS)⟩ fun s' c' hm hc' hS' => ?_
  obtain ⟨h', g2, d', tk', os'⟩ := s'
  have e1 : g2 = s.gens := hm.gens
  have e2 : d' = s.drawn := hm.drawn
  have e3 : os' = s.os := hm.os
  subst e1 e2 e3
  show wpAny _ _ _ _ _ _
  refine wpAny_pure ?_
  show wpAny _ _ (ret Value.none) _ _ _
  refine wpAny_pure ⟨rfl, h', tk', c', rfl, hS', by rw [← hisz]; exact hc', fun b o e => ?_⟩
  have hb0 : b < s.heap.objs.size := Heap.lt_size e
  exact hm.heap b o (fun h => by
    rcases List.mem_cons.mp h with e | e
    · exact Nat.ne_of_lt hb0 e
    · have e := List.mem_singleton.mp e
      rw [z1] at e
      exact Nat.ne_of_lt (Nat.lt_succ_of_lt hb0) e) (Heap.get?_push_of_some _ (Heap.get?_push_of_some _ e))
theorem call_set_ints {l : Addr} {items : Array Value} {ns : List Int} {Q : Value → Shared → Prop} (hh : A.handled = none) (hl : s.heap.IsList l items) (hit : IntsAre items.toList ns) (hb : ns.length + 1 < scanBound)
    (h : ∀ s2, MadeS w s ns s2 → Q (.ref s.heap.objs.size) s2) : wpAny (model P w) A (call (.type "set") [.ref l]) Q E s := by
  obtain ⟨_, _, hmro⟩ := F.called_set.mro
  have g1 := F.called_set.made
  have g2 := F.called_set.sub
  refine wpAny_call (codeAny_of_tree ?_)
  show wpAny _ _ (callAny (.type "set") _) _ _ _
  refine wpAny_pure ⟨Code.quiet_builtin _ (by decide +kernel), codeAny_builtin F.entry_type_call ?_⟩
  rw [Around.under_plain (weight_type_call_type "set" [.ref l] []) rfl]
  have g3 := F.called_set.notType
  have g4 := F.called_set.canCreate
  have g5 := F.typeCall_set_1 (.ref l)
  repeat (any_goals (first | assumption | wp_step))
  refine codeAny_mono (code_set_led1 (.ref l) (E := E) (Q₁ := fun obj s1 => obj = .ref s.heap.objs.size ∧ s1 = { s with heap := hpS w s.heap }) ⟨rfl, rfl⟩) fun r s1 hr => ?_
  rcases r with e | fl
  · exact hr
  · cases fl with
    | ret obj =>
      obtain ⟨rfl, rfl⟩ := hr
      have hT : Shared.TypeIs { s with heap := hpS w s.heap } (.ref s.heap.objs.size) "set" := ⟨_, Heap.get?_push_size _ rfl, rfl⟩
      have g6 := F.called_set.init.lookup
      have g7 := F.called_set.init.bind (.ref s.heap.objs.size)
      repeat (any_goals (first | assumption | wp_step))
      refine codeAny_mono (codeAny_call_builtin (R := wants (fun r s2 => r = Value.none ∧ MadeS w s ns s2) E) F.called_set.init.plain F.entry_set_init (check_set_init_1 hT ?_)) fun r2 s2 hr2 => ?_
      · exact made_init hh hl hit hb
      · rcases r2 with e | fl2
        · exact hr2
        · cases fl2 with
          | ret r =>
            obtain ⟨rfl, m⟩ := hr2
            repeat (any_goals (first | assumption | wp_step))
            exact h _ m
          | _ => exact hr2.elim
    | _ => exact hr.elim
end
/-- distinct ones -/
def dedI : List Int → List Int
  | [] => []
  | n :: ns => if n ∈ ns then dedI ns else n :: dedI ns
theorem dedI_mem : ∀ (ns : List Int) (k : Int), k ∈ dedI ns ↔ k ∈ ns
  | [], k => Iff.rfl
  | n :: ns, k => by
    unfold dedI
    split
    · rename_i h
      rw [dedI_mem ns k, List.mem_cons]
      exact ⟨Or.inr, fun q => q.elim (fun e => e ▸ h) id⟩
    · rw [List.mem_cons, List.mem_cons, dedI_mem ns k]
theorem dedI_nodup : ∀ ns : List Int, (dedI ns).Nodup
  | [] => List.nodup_nil
  | n :: ns => by
    unfold dedI
    split
    · exact dedI_nodup ns
    · rename_i h
      exact List.nodup_cons.mpr ⟨fun q => h ((dedI_mem ns n).mp q), dedI_nodup ns⟩
def sortSet (ns : List Int) : List Int := sortI (dedI ns)
theorem nodup_perm {xs ys : List Int} (hx : xs.Nodup) (hy : ys.Nodup) (h : ∀ k, k ∈ xs ↔ k ∈ ys) : xs.Perm ys := (List.perm_ext_iff_of_nodup hx hy).mpr h
theorem sortSet_unique {ns ms : List Int} (h : ms.Pairwise (· < ·)) (hm : ∀ k, k ∈ ms ↔ k ∈ ns) : ms = sortSet ns := by
  refine sortI_unique (nodup_perm (h.imp fun {a b} q => by omega) (dedI_nodup ns) fun k => ?_) (h.imp fun {a b} q => by omega)
  rw [hm k, dedI_mem]
/-- sorted(set(xs)) -/
def lSortSet (n : AM) : AM := fun en S => (n en S).bind fun xs S1 => match xs with
  | [x] => match asL S1 x with
    | some ds => match asInts ds with
      | some ns => if (dedI ns).length < 64 ∧ ns.length < 4000 then .ok ((sortSet ns).map D.int) S1 else .bad
      | none => .bad
    | none => .bad
  | _ => .bad
/-- len(set(xs)) -/
def mLenSet (n : AM) : EM := fun en S => (n en S).bind fun xs S1 => match xs with
  | [x] => match asL S1 x with
    | some ds => match asInts ds with
      | some ns => if ns.length < 4000 then .ok (.int ((dedI ns).length : Nat)) S1 else .bad
      | none => .bad
    | none => .bad
  | _ => .bad
section
variable {X : Cx}
def rSetL (K : PySem.W.Frag) (w : World) : List V → Hp → VK → Prop := fun xs H Q => ∃ (l : Addr) (ns : List Int), xs = [.ref l] ∧ SqL K H l (ns.map V.int) ∧ ns.length < 4000 ∧ ∀ p, H p = none → Q (.ref p) (upd H p (SetO w p (fun j => decide (j ∈ ns)) (dedI ns).length))
theorem cr_setL (hc : X.calm = true) : CallR X (.type "set") (rSetL X.K X.w) := by
  intro pins s σ H xs us Q I r h
  obtain ⟨l, ns, rfl, hs, hb, q⟩ := h
  obtain ⟨its, rv, pl, hz⟩ := I.list hs
  rw [Vals.ref1 r]
  refine call_set_ints (ns := ns) (I.ok.hd hc) pl.isList (by simpa using ints_of_vals rv) (by unfold scanBound; omega) fun s2 m => ?_
  obtain ⟨h', tk, c, rfl, R, hcl, k⟩ := m
  have e : c = (dedI ns).length := by
    obtain ⟨o, es, ep, t, ho, hex, hd, g, nd, hm, hb, hf, hn, _⟩ := R
    have pm : (es.toList.map keyOf).Perm (dedI ns) := nodup_perm nd (dedI_nodup ns) fun k => by
      rw [← hm k, decide_eq_true_eq, dedI_mem]
    have := pm.length_eq
    rw [List.length_map, Array.length_toList] at this
    omega
  rw [e] at R
  exact ⟨.ref _, upd H s.heap.objs.size (SetO X.w s.heap.objs.size (fun j => decide (j ∈ ns)) (dedI ns).length), I.laid (t' := tk) k (Nat.le_refl _) (setO_new R), rfl, q _ (I.hok.fresh (Nat.le_refl _))⟩
def rLenS (w : World) : List V → Hp → VK → Prop := fun xs H Q => ∃ a S n, xs = [.ref a] ∧ H a = some (SetO w a S n) ∧ Q (.int n) H
theorem cr_lenS : CallR X (.builtin "len") (rLenS X.w) := by
  intro pins s σ H xs us Q I r h
  obtain ⟨a, S, n, rfl, ha, q⟩ := h
  rw [Vals.ref1 r]
  obtain ⟨o, es, ep, t, ho, hex, hd, g, nd, hm, hb, hf, hn, _⟩ := setO_get I ha
  refine call_len_set ho hex hd hf (by unfold scanBound at hb; omega) ⟨.int n, H, I.tok _, ⟨_, by rw [hn]⟩, q⟩
variable {ct : Tb} {W : WX} {e : Expr} {p p2 q pos : Pos} {n : AM}
theorem pe_setL (hc : X.calm = true) (hg : Gl X "set") (hm : X.mg "set" = none) (ha : PA X [e] (tMA X.K ct W n)) (hs : starEach [e] X.env = (false, eval e X.env) :: starEach [] X.env := by rfl) : PE X (.Call (.Name "set" p) [e] [] pos) (fun σ H Q => tMA X.K ct W n σ H fun xs H1 => rSetL X.K X.w xs H1 Q) :=
  pe_callTy (cr_setL hc) hg hm (by decide +kernel) ha (by decide) (by decide) hs rfl
theorem ml_sortSet (hc : X.calm = true) (hg : Gl X "sorted") (hm : X.mg "sorted" = none) (hg2 : Gl X "set") (hm2 : X.mg "set" = none) (ha : PA X [e] (tMA X.K ct W n)) (hs : starEach [e] X.env = (false, eval e X.env) :: starEach [] X.env := by rfl)
    (hs2 : starEach [.Call (.Name "set" p2) [e] [] q] X.env = (false, eval (.Call (.Name "set" p2) [e] [] q) X.env) :: starEach [] X.env := by rfl) : PE X (.Call (.Name "sorted" p) [.Call (.Name "set" p2) [e] [] q] [] pos) (tML X.K ct W (lSortSet n)) :=
  pe_weak (pe_callB (cr_sortedSet hc) hg hm (by decide +kernel) (pa_cons (pe_setL hc hg2 hm2 ha hs) pa_nil hs2) (by decide) (by decide) hs2 rfl) fun σ H Q h => by
    obtain ⟨w, S, en, rfl, st, ev, h⟩ := h
    refine tG_bind st ev h fun ds S1 w1 x e1 st1 ev1 rx q => ?_
    split at q
    · split at q
      · split at q
        · split at q
          · rename_i e2 _ ns e3 hz
            obtain ⟨u, rfl, ru⟩ := rx.one
            obtain ⟨a, vs, rfl, hS, rs⟩ := st1.lst ru e2
            rw [asInts_ok rs e3] at hS
            refine ⟨a, ns, rfl, hS, hz.2, fun pS hp => ?_⟩
            refine ⟨pS, _, _, rfl, upd_same, hz.1, fun ms p3 h1 h2 h3 h4 => ?_⟩
            have e4 : ms = sortSet ns := sortSet_unique h1 fun k => by rw [h2 k, decide_eq_true_eq]
            have x2 : XT X.K w1 (w1.put pS (SetO X.w pS (fun j => decide (j ∈ ns)) (dedI ns).length)) := XT.new hp
            obtain ⟨w3, e5, x3, s3, r3⟩ := mk_own (st1.new (o := SetO X.w pS (fun j => decide (j ∈ ns)) (dedI ns).length) hp) (RVs.ints (sortSet ns)) h4
            rw [e4]
            show Q _ (upd (Wd.put w1 pS _).H p3 _)
            rw [← e5]
            exact (q.mono x2) w3 _ x3 s3 r3
          · exact q.elim
        · exact q.elim
      · exact q.elim
    · exact q.elim
theorem me_lenSet (hc : X.calm = true) (hg : Gl X "len") (hm : X.mg "len" = none) (hg2 : Gl X "set") (hm2 : X.mg "set" = none) (ha : PA X [e] (tMA X.K ct W n)) (hs : starEach [e] X.env = (false, eval e X.env) :: starEach [] X.env := by rfl)
    (hs2 : starEach [.Call (.Name "set" p2) [e] [] q] X.env = (false, eval (.Call (.Name "set" p2) [e] [] q) X.env) :: starEach [] X.env := by rfl) : PE X (.Call (.Name "len" p) [.Call (.Name "set" p2) [e] [] q] [] pos) (tM X.K ct W (mLenSet n)) :=
  pe_weak (pe_callB cr_lenS hg hm (by decide +kernel) (pa_cons (pe_setL hc hg2 hm2 ha hs) pa_nil hs2) (by decide) (by decide) hs2 rfl) fun σ H Q h => by
    obtain ⟨w, S, en, rfl, st, ev, h⟩ := h
    refine tG_bind st ev h fun ds S1 w1 x e1 st1 ev1 rx q => ?_
    split at q
    · split at q
      · split at q
        · split at q
          · rename_i e2 _ ns e3 hz
            obtain ⟨u, rfl, ru⟩ := rx.one
            obtain ⟨a, vs, rfl, hS, rs⟩ := st1.lst ru e2
            rw [asInts_ok rs e3] at hS
            refine ⟨a, ns, rfl, hS, hz, fun pS hp => ⟨pS, _, _, rfl, upd_same, ?_⟩⟩
            exact q (w1.put pS (SetO X.w pS (fun j => decide (j ∈ ns)) (dedI ns).length)) _ (XT.new hp) (st1.new hp) .int
          · exact q.elim
        · exact q.elim
      · exact q.elim
    · exact q.elim
end
end Mi
/-! The mirror layer: what a generated text leans on. -/
namespace Mi
open PySem L2
section
variable {P : Program} {w : World} {K : PySem.W.Frag} {mg : Str → Option Value} {base : Heap} {ct : Tb}
/-- a def, whatever its defaults -/
structure FunA (K : PySem.W.Frag) (x qual : Str) (st : Stmt) (f : Addr) (fd : FuncData) : Prop where
  ex : ∃ (oc : Value) (od : Option Addr) (dV kV doc pm : Value) (an : Option Addr) (cdv c : Value) (osl : Array (Option Value)),
    fd = PySem.W.fnOf x qual (defArgs st) (defBody st) (defScope st) dV kV doc pm an cdv c ∧ K.lookup f = some ⟨oc, od, .func fd, osl⟩ ∧ PySem.W.codeIn K cdv qual = true
  kp : PySem.W.keepIn K (.ref f) = true
theorem funA_mk {x qual : Str} {st : Stmt} {f : Addr} {oc : Value} {od an : Option Addr} {osl : Array (Option Value)} {dV kV doc pm cdv c : Value} (l : K.lookup f = some ⟨oc, od, .func (PySem.W.fnOf x qual (defArgs st) (defBody st) (defScope st) dV kV doc pm an cdv c), osl⟩)
    (hc : PySem.W.codeIn K cdv qual = true) (k : PySem.W.keepIn K (.ref f) = true) : FunA K x qual st f (PySem.W.fnOf x qual (defArgs st) (defBody st) (defScope st) dV kV doc pm an cdv c) := ⟨⟨oc, od, dV, kV, doc, pm, an, cdv, c, osl, rfl, l, hc⟩, k⟩
/-- a body's promise -/
abbrev BodyOk (P : Program) (w : World) (K : PySem.W.Frag) (mg : Str → Option Value) (base : Heap) (ct : Tb) (N : List Str) (qual : Str) (st : Stmt) (f : Addr) (k : Nat) (m : SM) : Prop :=
  ∀ (cdv : Value) (A : Around) (outer : List Env) (s : Shared) (H : Hp) (E : XK), Room k (A.deeper (PyProof.Rows.envOfC qual (defScope st) s.heap.objs.size f cdv)) → Takes (bcx P w K mg base N qual st f cdv A outer s H E) (fun cls d _ H => E cls d H) →
      PSs (bcx P w K mg base N qual st f cdv A outer s H E) (defBody st) (tS ct K (fun cls d _ H => E cls d H) m)
theorem fn_okA {x qual : Str} {st : Stmt} {f : Addr} {fd : FuncData} {N ps : List Str} {k : Nat} {m : SM} (F : FunA K x qual st f fd) (S : FnScope N ps (defScope st))
    (hb : BodyOk P w K mg base ct N qual st f k m) : FnOk P w K mg base (L2.CX P w) (k + 1) f fd ps (spM K ct (runB ps.length N.length m)) := by
  obtain ⟨oc, od, dV, kV, doc, pm, an, cdv, c, osl, rfl, lk, hcd⟩ := F.ex
  refine fn_of lk hcd S (fun vs H Q E h => ?_) (fun A outer s H vs Q E hr h => ⟨_, hb cdv A outer s H E hr (takes_of rfl rfl rfl rfl), ?_⟩)
  · obtain ⟨w, S, ds, e, st, r, h⟩ := h
    unfold runB at h
    split at h
    · rename_i hl
      rw [r.length]; exact hl
    · exact h.elim
  · obtain ⟨w, S, ds, e, st, r, h⟩ := h
    unfold runB at h
    split at h
    · rename_i hl
      subst e
      refine ⟨w, S, ds.map some ++ List.replicate (N.length - ps.length) none, rfl, st, by rw [← hl]; exact RE.start r, ?_⟩
      split at h
      · rename_i e
        rw [e]
        exact fun w' σ' x s _ => h w' .non x s .non
      · rename_i e
        rw [e]
        exact fun w' v x s r => h w' v x s r
      · rename_i e
        rw [e]
        exact fun w' σ' cls dd x s _ r => h w' cls dd x s r
      · exact h.elim
    · exact h.elim
/-- what stands of a def at its name -/
structure FF (K : PySem.W.Frag) (mg : Str → Option Value) (x qual : Str) (st : Stmt) (ps : List Str) (dds : List D) : Prop where
  ex : ∃ f fd ds dvs, FunA K x qual st f fd ∧ mg x = some (.ref f) ∧ Binds K fd ps ds ∧ Vals dvs ds ∧ ∀ ct w, RVs K ct w dvs dds
structure MF (K : PySem.W.Frag) (C : Addr) (x qual : Str) (st : Stmt) (ps : List Str) (dds : List D) : Prop where
  ex : ∃ f fd ds dvs, FunA K x qual st f fd ∧ Meth K C x f ∧ Binds K fd ps ds ∧ Vals dvs ds ∧ ∀ ct w, RVs K ct w dvs dds
structure IF (K : PySem.W.Frag) (mg : Str → Option Value) (C : Addr) (x qual : Str) (st : Stmt) (ps : List Str) (dds : List D) : Prop where
  ex : ∃ f fd ds dvs, FunA K "__init__" qual st f fd ∧ mg x = some (.ref C) ∧ Cls K C ∧ Mk K C f ∧ Binds K fd ps ds ∧ Vals dvs ds ∧ ∀ ct w, RVs K ct w dvs dds
theorem fn_ofA {x qual : Str} {st : Stmt} {N ps : List Str} {k : Nat} {m : SM} {dds : List D} (F : FF K mg x qual st ps dds) (S : FnScope N ps (defScope st)) (hb : ∀ f, BodyOk P w K mg base ct N qual st f k m) {np n : Nat} (hp : ps.length = np := by rfl) (hn : N.length = n := by rfl) : Fn P w K mg base ct x (k + 1) (runB np n m) dds := by
  subst hp hn
  obtain ⟨f, fd, ds, dvs, h1, h2, h3, h4, h5⟩ := F.ex
  exact ⟨f, fd, ps, ds, dvs, h2, h1.kp, h3, h4, h5 ct, fn_okA h1 S (hb f)⟩
theorem mt_ofA {x qual : Str} {st : Stmt} {N ps : List Str} {k c : Nat} {m : SM} {dds : List D} (F : MF K (ct.c c) x qual st ps dds) (S : FnScope N ps (defScope st)) (hb : ∀ f, BodyOk P w K mg base ct N qual st f k m) {np n : Nat} (hp : ps.length = np := by rfl) (hn : N.length = n := by rfl) : Mt P w K mg base ct c x (k + 1) (runB np n m) dds := by
  subst hp hn
  obtain ⟨f, fd, ds, dvs, h1, h2, h3, h4, h5⟩ := F.ex
  exact ⟨f, fd, ps, ds, dvs, h2, h3, h4, h5 ct, fn_okA h1 S (hb f)⟩
theorem mk_ofA {x qual : Str} {st : Stmt} {N ps : List Str} {k c : Nat} {m : SM} {dds : List D} (F : IF K mg (ct.c c) x qual st ps dds) (S : FnScope N ps (defScope st)) (hb : ∀ f, BodyOk P w K mg base ct N qual st f k m) {np n : Nat} (hp : ps.length = np := by rfl) (hn : N.length = n := by rfl) : Mkr P w K mg base ct x c (k + 1) (runB np n m) dds := by
  subst hp hn
  obtain ⟨f, fd, ds, dvs, h1, h2, h2b, h2c, h3, h4, h5⟩ := F.ex
  exact ⟨f, fd, ps, ds, dvs, h2, h2b, h2c, h3, h4, h5 ct, fn_okA h1 S (hb f)⟩
theorem ff_all {x qual : Str} {st : Stmt} {ps : List Str} {f : Addr} {fd : FuncData} (F : FunA K x qual st f fd) (g : mg x = some (.ref f)) (h : ∀ us : List Value, us.length = ps.length → bindArgs fd ⟨us, []⟩ = pure (ps.zip us)) : FF K mg x qual st ps [] := ⟨f, fd, [], [], F, g, .all h, .nil, fun _ _ => .nil⟩
theorem mf_all {C : Addr} {x qual : Str} {st : Stmt} {ps : List Str} {f : Addr} {fd : FuncData} (F : FunA K x qual st f fd) (g : Meth K C x f) (h : ∀ us : List Value, us.length = ps.length → bindArgs fd ⟨us, []⟩ = pure (ps.zip us)) : MF K C x qual st ps [] := ⟨f, fd, [], [], F, g, .all h, .nil, fun _ _ => .nil⟩
theorem if_all {C : Addr} {x qual : Str} {st : Stmt} {ps : List Str} {f : Addr} {fd : FuncData} (F : FunA K "__init__" qual st f fd) (g : mg x = some (.ref C)) (hC : Cls K C) (hM : Mk K C f) (h : ∀ us : List Value, us.length = ps.length → bindArgs fd ⟨us, []⟩ = pure (ps.zip us)) : IF K mg C x qual st ps [] := ⟨f, fd, [], [], F, g, hC, hM, .all h, .nil, fun _ _ => .nil⟩
/-- the defaults stand in a tuple -/
theorem binds_dfl {fd : FuncData} {ps : List Str} {T : Addr} {o : Obj} {its : Array Value} {n : Nat} {ds : List Value} (lT : K.lookup T = some o) (oT : o.data = .seq its n)
    (h : ∀ us : List Value, (us ++ ds).length = ps.length → ∃ k, bindArgs fd ⟨us, []⟩ = seqItems? (.ref T) >>= k ∧ k (some its) = pure (ps.zip (us ++ ds))) : Binds K fd ps ds := fun s us X hl => by
  obtain ⟨k, e1, e2⟩ := h us hl
  exact BindsTo.of_looks fun M => by
    rw [e1]
    exact looks_items X lT oT (PySem.W.Looks.of_pure e2)
theorem if_dfl {C : Addr} {x qual : Str} {st : Stmt} {ps : List Str} {f : Addr} {fd : FuncData} {ds : List Value} {dvs : List V} {dds : List D} (F : FunA K "__init__" qual st f fd) (g : mg x = some (.ref C)) (hC : Cls K C) (hM : Mk K C f) (h : Binds K fd ps ds) (hv : Vals dvs ds) (hd : ∀ ct w, RVs K ct w dvs dds) : IF K mg C x qual st ps dds := ⟨f, fd, ds, dvs, F, g, hC, hM, h, hv, hd⟩
theorem mt_all_nil {x : Str} {k : Nat} {dds : List D} : ∀ q ∈ ([] : List (Nat × FM)), Mt P w K mg base ct q.1 x k q.2 dds := fun q h => absurd h List.not_mem_nil
theorem mt_all_cons {x : Str} {c j k : Nat} {m : FM} {dds : List D} {tb : List (Nat × FM)} (h : Mt P w K mg base ct c x j m dds) (hk : j ≤ k) (r : ∀ q ∈ tb, Mt P w K mg base ct q.1 x k q.2 dds) : ∀ q ∈ (c, m) :: tb, Mt P w K mg base ct q.1 x k q.2 dds := fun q hq => by
  rcases List.mem_cons.mp hq with e | hq
  · rw [e]; exact h.mono hk
  · exact r q hq
end
section
variable {X : Cx} {ct : Tb} {W : WX} {e a b c : Expr}
theorem me_v (i : Nat) {x : Str} {pos : Pos} (hN : X.N[i]? = some x := by rfl) (hv : Vis X.env.scope x := by first | exact Or.inl rfl | exact Or.inr (Or.inl rfl) | exact Or.inr (Or.inr rfl)) (hd : (x == ("__debug__" : Str)) = false := by decide) (hcd : (x == ("__classdict__" : Str)) = false := by decide) : PE X (.Name x pos) (tM X.K ct W (mVar i)) := me_var hN hv hd hcd
theorem mg_n (i : Nat) {x : Str} {pos : Pos} (hN : X.N.Nodup) (hi : X.N[i]? = some x := by rfl) (hx : Loc X.env.scope x := by first | exact Or.inl rfl | exact Or.inr rfl) (hf : X.fn x = true ∨ X.env.scope.names.lookup x = some .local := by first | exact .inl rfl | exact .inr rfl) : PGm X ct (.Name x pos) (.nm i) := mg_name hN hi hx hf
theorem mgs_c (i : Nat) {x : Str} {es : List Expr} {is : List Nat} {pos : Pos} (hN : X.N.Nodup) (h : PGms X ct es is) (hi : X.N[i]? = some x := by rfl) (hx : Loc X.env.scope x := by first | exact Or.inl rfl | exact Or.inr rfl) (hf : X.fn x = true ∨ X.env.scope.names.lookup x = some .local := by first | exact .inl rfl | exact .inr rfl)
    (hs : (assignEach (.Name x pos :: es) X.env).map (·.2) = assign (.Name x pos) X.env :: (assignEach es X.env).map (·.2) := by rfl) : PGms X ct (.Name x pos :: es) (i :: is) := mgs_cons hN hi hx h hf hs
theorem pg_n (i : Nat) {x : Str} {pos : Pos} (hN : X.N.Nodup) (hi : X.N[i]? = some x := by rfl) (hx : Loc X.env.scope x := by first | exact Or.inl rfl | exact Or.inr rfl) (hf : X.fn x = true ∨ X.env.scope.names.lookup x = some .local := by first | exact .inl rfl | exact .inr rfl) : PG X (.Name x pos) (gName i) := pg_name hN hi hx hf
theorem pgs_c (i : Nat) {x : Str} {es : List Expr} {t : TGs} {pos : Pos} (hN : X.N.Nodup) (h : PGs X es t) (hi : X.N[i]? = some x := by rfl) (hx : Loc X.env.scope x := by first | exact Or.inl rfl | exact Or.inr rfl) (hf : X.fn x = true ∨ X.env.scope.names.lookup x = some .local := by first | exact .inl rfl | exact .inr rfl)
    (hs : (assignEach (.Name x pos :: es) X.env).map (·.2) = assign (.Name x pos) X.env :: (assignEach es X.env).map (·.2) := by rfl) : PGs X (.Name x pos :: es) (gCons (gName i) t) := pgs_cons (pg_name hN hi hx hf) h hs
theorem pg_t {es : List Expr} {k n : Nat} {t : TGs} {pos : Pos} (hc : X.calm = true) (h : PGs X es t) (hn : (assignEach es X.env).length = n := by rfl) (hst : (assignEach es X.env).findIdx? (·.1) = none := by rfl) : PG X (.Tuple es k pos) (gOr (gTup X.K n t) (gLst X.K n t)) := pg_or (pg_tup hc h hn hst) (pg_lst hc h hn hst)
end
/-! ### the law's def -/
theorem fn_impl {P : Program} {w : World} {K : PySem.W.Frag} {mg : Str → Option Value} {base : Heap} {CX : CXT} {k : Nat} {f : Addr} {fd : FuncData} {ps : List Str} {sp sp' : Sp} (F : FnOk P w K mg base CX k f fd ps sp) (i : ∀ vs H Q E, sp' vs H Q E → sp vs H Q E) : FnOk P w K mg base CX k f fd ps sp' :=
  ⟨fun vs H Q E h => F.len vs H Q E (i vs H Q E h), fun A outer s H args us vs Q E hr e0 hb r hsp => F.run A outer s H args us vs Q E hr e0 hb r (i vs H Q E hsp)⟩
theorem spM_law {K : PySem.W.Frag} {ct : Tb} {m : FM} {a : Addr} {ns : List Int} {H : Hp} {Q : VK} {E : XK} (L : ∃ S, m [.lst (ns.map .int)] [] = .ok (.bl true) S) (hS : SqL K H a (ns.map V.int)) (hq : ∀ v, v = .bl true → ∀ H', Q v H') : spM K ct m [.ref a] H Q E := by
  obtain ⟨S, e⟩ := L
  have key : ∀ F : Addr → Prop, (∀ b, F b → ∃ o, H b = some o) → ((F a ∧ Rd H a (.lst (ns.map V.int))) ∨ KLs K a (ns.map V.int)) → spM K ct m [.ref a] H Q E := fun F hF h => by
    refine ⟨⟨F, fun _ => False, [], H⟩, [], [.lst (ns.map .int)], rfl, ⟨rfl, List.nodup_nil, fun i a o h1 => by simp at h1, fun i a o h1 => by simp at h1, hF, fun a h => absurd h List.not_mem_nil, fun a h => h.elim⟩, .cons (.lst h (RVs.ints ns)) .nil, ?_⟩
    rw [e]
    intro w' v x s r
    cases r
    exact hq _ rfl _
  rcases hS with h | h
  · refine key (fun b => b = a) (fun b e => ?_) (.inl ⟨rfl, h⟩)
    subst e
    rcases h with h | ⟨o, h⟩
    · exact ⟨_, h⟩
    · exact ⟨_, h⟩
  · exact key (fun _ => False) (fun _ h => h.elim) (.inr h)
theorem cx_no {P : Program} : ∀ (w : World) (H : Hp) (s : Shared) (e : Value) (s' : Shared), L2.CX P w [] H s (fun _ _ _ => False) e s' → False := fun w H s e s' h => by
  simpa [L2.CX] using h
end Mi
/-! The mirror layer: what a def leaves behind that nobody holds is forgotten. -/
namespace Mi
open PySem L2
mutual
def noRef : D → Bool
  | .ref _ => false
  | .tup xs => noRefs xs
  | .ktup xs => noRefs xs
  | .lst xs => noRefs xs
  | .dct kvs => noRefK kvs
  | .obj _ fs => noRefF fs
  | _ => true
def noRefs : List D → Bool
  | [] => true
  | d :: ds => noRef d && noRefs ds
def noRefK : List (Key × D) → Bool
  | [] => true
  | (_, d) :: ds => noRef d && noRefK ds
def noRefF : List (Nat × D) → Bool
  | [] => true
  | (_, d) :: ds => noRef d && noRefF ds
end
theorem noRefK_map : ∀ {kvs : List (Key × D)}, noRefK kvs = noRefs (kvs.map (·.2))
  | [] => rfl
  | (_, d) :: r => by unfold noRefK; rw [noRefK_map]; rfl
theorem noRefF_map : ∀ {kvs : List (Nat × D)}, noRefF kvs = noRefs (kvs.map (·.2))
  | [] => rfl
  | (_, d) :: r => by unfold noRefF; rw [noRefF_map]; rfl
def beqSO : SO → SO → Bool
  | .lst a, .lst b => beqDs a b
  | .dct a, .dct b => beqKs a b
  | .ins c a, .ins e b => decide (c = e) && beqFs a b
  | .dead, .dead => true
  | .dcT a, .dcT b => decide (a.map (·.1) = b.map (·.1)) && beqDs (a.map (·.2)) (b.map (·.2))
  | _, _ => false
def beqS : Sto → Sto → Bool
  | [], [] => true
  | a :: as, b :: bs => beqSO a b && beqS as bs
  | _, _ => false
theorem unzip_eq {α β : Type} : ∀ {a b : List (α × β)}, a.map (·.1) = b.map (·.1) → a.map (·.2) = b.map (·.2) → a = b
  | [], [], _, _ => rfl
  | [], _ :: _, h, _ => by cases h
  | _ :: _, [], h, _ => by cases h
  | (x, y) :: a, (u, v) :: b, h1, h2 => by
    simp only [List.map_cons, List.cons.injEq] at h1 h2
    rw [h1.1, h2.1, unzip_eq h1.2 h2.2]
theorem beqSO_eq {a b : SO} (h : beqSO a b = true) : a = b := by
  cases a <;> cases b <;> first | cases h | skip
  · rw [beqDs_eq h]
  · rw [beqKs_eq h]
  · unfold beqSO at h
    simp only [Bool.and_eq_true, decide_eq_true_eq] at h
    rw [unzip_eq h.1 (beqDs_eq h.2)]
  · unfold beqSO at h
    simp only [Bool.and_eq_true, decide_eq_true_eq] at h
    rw [h.1, beqFs_eq h.2]
  · rfl
theorem beqSO_refl (a : SO) : beqSO a a = true := by
  cases a <;> unfold beqSO <;> simp [beqDs_refl, beqKs_refl, beqFs_refl]
theorem beqS_eq : ∀ {a b : Sto}, beqS a b = true → a = b
  | [], [], _ => rfl
  | a :: as, b :: bs, h => by
    unfold beqS at h
    rw [Bool.and_eq_true] at h
    rw [beqSO_eq h.1, beqS_eq h.2]
  | [], _ :: _, h => by cases h
  | _ :: _, [], h => by cases h
theorem beqS_refl : ∀ a : Sto, beqS a a = true
  | [] => rfl
  | a :: as => by unfold beqS; rw [beqSO_refl, beqS_refl as]; rfl
def trimR (S : Sto) (r : Rs D) : Rs D := match r with
  | .ok d S' => if noRef d && beqS (S'.take S.length) S then .ok d S else .ok d S'
  | .exc x S' => if noRefF x.fs && beqS (S'.take S.length) S then .exc x S else .exc x S'
  | .bad => .bad
def trim (m : FM) : FM := fun ds S => trimR S (m ds S)
theorem trim_pure {m : FM} {ds : List D} {S J : Sto} {d : D} (h : m ds S = .ok d (S ++ J)) (hn : noRef d = true) : trim m ds S = .ok d S := by
  unfold trim trimR
  rw [h]
  simp [hn, beqS_refl]
theorem trim_id {m : FM} {ds : List D} {S S' : Sto} {d : D} (h : m ds S = .ok d S') (hn : noRef d = false) : trim m ds S = .ok d S' := by
  unfold trim trimR
  rw [h]
  simp [hn]
theorem trim_exc {m : FM} {ds : List D} {S J : Sto} {c : Nat} (h : m ds S = .exc ⟨c, []⟩ (S ++ J)) : trim m ds S = .exc ⟨c, []⟩ S := by
  unfold trim trimR
  rw [h]
  simp [noRefF, beqS_refl]
section
variable {K : PySem.W.Frag} {ct : Tb} {w w' : Wd}
/-- the store of ahead again -/
def Wd.back (w : Wd) (ρ : List Addr) : Wd := { w with ρ := ρ }
mutual
theorem RV.back {ρ : List Addr} : ∀ {d : D} {v : V}, RV K ct w v d → noRef d = true → RV K ct (w.back ρ) v d
  | _, _, .non, _ => .non
  | _, _, .bl, _ => .bl
  | _, _, .int, _ => .int
  | _, _, .str, _ => .str
  | _, _, .tup h r, n => .tup h (RVs.back r n)
  | _, _, .ktup h r, n => .ktup h (RVs.back r n)
  | _, _, .lst h r, n => .lst h (RVs.back r n)
  | _, _, .dct f h q r, n => .dct f h q (RVs.back r (by unfold noRef at n; rw [← noRefK_map]; exact n))
  | _, _, .obj f h i q r, n => .obj f h i q (RVs.back r (by unfold noRef at n; rw [← noRefF_map]; exact n))
  | _, _, .ref h, n => by cases n
theorem RVs.back {ρ : List Addr} : ∀ {ds : List D} {vs : List V}, RVs K ct w vs ds → noRefs ds = true → RVs K ct (w.back ρ) vs ds
  | _, _, .nil, _ => .nil
  | _, _, .cons h r, n => .cons (RV.back h (by unfold noRefs at n; exact (Bool.and_eq_true .. ▸ n).1)) (RVs.back r (by unfold noRefs at n; exact (Bool.and_eq_true .. ▸ n).2))
end
/-- what was held ahead is held by the store of ahead -/
theorem pre_get {ρ ρ' : List Addr} (h : ρ <+: ρ') {i : Nat} {a b : Addr} (h0 : ρ[i]? = some b) (h1 : ρ'[i]? = some a) : ρ[i]? = some a := by
  obtain ⟨t, rfl⟩ := h
  rw [List.getElem?_append_left (List.getElem?_eq_some_iff.mp h0).1] at h1
  exact h1
mutual
theorem RV.back2 (hp : w.ρ <+: w'.ρ) : ∀ {d : D} {v u : V}, RV K ct w u d → RV K ct w' v d → RV K ct (w'.back w.ρ) v d
  | _, _, _, _, .non => .non
  | _, _, _, _, .bl => .bl
  | _, _, _, _, .int => .int
  | _, _, _, _, .str => .str
  | _, _, _, .tup _ r0, .tup h r => .tup h (RVs.back2 hp r0 r)
  | _, _, _, .ktup _ r0, .ktup h r => .ktup h (RVs.back2 hp r0 r)
  | _, _, _, .lst _ r0, .lst h r => .lst h (RVs.back2 hp r0 r)
  | _, _, _, .dct _ _ _ r0, .dct f h q r => .dct f h q (RVs.back2 hp r0 r)
  | _, _, _, .obj _ _ _ _ r0, .obj f h i q r => .obj f h i q (RVs.back2 hp r0 r)
  | _, _, _, .ref h0, .ref h => .ref (pre_get hp h0 h)
theorem RVs.back2 (hp : w.ρ <+: w'.ρ) : ∀ {ds : List D} {vs us : List V}, RVs K ct w us ds → RVs K ct w' vs ds → RVs K ct (w'.back w.ρ) vs ds
  | _, _, _, .nil, .nil => .nil
  | _, _, _, .cons h0 r0, .cons h r => .cons (RV.back2 hp h0 h) (RVs.back2 hp r0 r)
end
theorem SOk.back2 {a b : Addr} {o : SO} (hp : w.ρ <+: w'.ρ) (h0 : SOk K ct w b o) (h : SOk K ct w' a o) : SOk K ct (w'.back w.ρ) a o := by
  cases o with
  | lst ds => obtain ⟨_, _, r0⟩ := h0; obtain ⟨vs, h1, h2⟩ := h; exact ⟨vs, h1, RVs.back2 hp r0 h2⟩
  | dct ds => obtain ⟨_, _, _, r0⟩ := h0; obtain ⟨vs, h1, h3, h2⟩ := h; exact ⟨vs, h1, h3, RVs.back2 hp r0 h2⟩
  | dcT ds => obtain ⟨_, _, _, r0⟩ := h0; obtain ⟨vs, h1, h3, h2⟩ := h; exact ⟨vs, h1, h3, RVs.back2 hp r0 h2⟩
  | ins c ds => obtain ⟨_, _, _, _, _, r0⟩ := h0; obtain ⟨dx, vs, h1, hi, h3, h2⟩ := h; exact ⟨dx, vs, h1, hi, h3, RVs.back2 hp r0 h2⟩
  | dead => trivial
theorem XT.back (e : XT K w w') : XT K w (w'.back w.ρ) := ⟨List.prefix_rfl, e.F, e.keep, e.keepF, e.keepT, fun _ h n => absurd h n, e.newF, e.P, e.keepP⟩
theorem SR.back {S S' : Sto} (st : SR K ct w S) (e : XT K w w') (st' : SR K ct w' S') (h : S'.take S.length = S) : SR K ct (w'.back w.ρ) S := by
  have up : ∀ {i : Nat} {o : SO}, S[i]? = some o → S'[i]? = some o := fun {i o} q => by
    have hl := (List.getElem?_eq_some_iff.mp q).1
    rw [← h, List.getElem?_take] at q
    rw [if_pos hl] at q
    exact q
  refine ⟨st.len, st.inj, fun i a o h1 h2 n => st'.dis i a o (e.get h1) (up h2) n, fun i a o h1 h2 => (st'.ob i a o (e.get h1) (up h2)) |> SOk.back2 e.pre (st.ob i a o h1 h2), st'.fin, fun a m => st'.fρ a (e.pre.subset m), st'.fP⟩
theorem wp_trim {S : Sto} {W : WX} {σ : L2.St} {r : Rs D} {Q : VK} (st : SR K ct w S) (h : Wp ct (LV K ct) W σ w (trimR S r) Q) : Wp ct (LV K ct) W σ w r Q := by
  cases r with
  | bad => exact h
  | ok d S' =>
    unfold trimR at h
    dsimp only at h
    split at h
    · rename_i hc
      rw [Bool.and_eq_true] at hc
      intro w' v x s rv
      exact h (w'.back w.ρ) v x.back (st.back x s (beqS_eq hc.2)) (RV.back rv hc.1)
    · exact h
  | exc x0 S' =>
    unfold trimR at h
    dsimp only at h
    split at h
    · rename_i hc
      rw [Bool.and_eq_true] at hc
      intro w' cls dd x s rx
      refine h (w'.back w.ρ) cls dd x.back (st.back x s (beqS_eq hc.2)) ?_
      obtain ⟨h1, h2 | ⟨d, fs, e1, e2, e3, r1, r2⟩⟩ := rx
      · exact ⟨h1, .inl h2⟩
      · exact ⟨h1, .inr ⟨d, fs, e1, e2, fun hm => e3 (x.pre.subset hm), r1, RVs.back r2 (by rw [← noRefF_map]; exact hc.1)⟩⟩
    · exact h
theorem spM_trim {m : FM} {vs : List V} {H : Hp} {Q : VK} {E : XK} (h : spM K ct (trim m) vs H Q E) : spM K ct m vs H Q E := by
  obtain ⟨w, S, ds, e, st, r, h⟩ := h
  exact ⟨w, S, ds, e, st, r, wp_trim st h⟩
end
section
variable {P : Program} {w : World} {K : PySem.W.Frag} {mg : Str → Option Value} {base : Heap} {ct : Tb}
theorem Fn.trim {x : Str} {k : Nat} {m : FM} {dds : List D} (h : Fn P w K mg base ct x k m dds) : Fn P w K mg base ct x k (Mi.trim m) dds := by
  obtain ⟨f, fd, ps, ds, dvs, h1, h2, h3, h4, h5, h6⟩ := h.ex
  exact ⟨f, fd, ps, ds, dvs, h1, h2, h3, h4, h5, fn_impl h6 fun _ _ _ _ q => spM_trim q⟩
theorem Mt.trim {x : Str} {c k : Nat} {m : FM} {dds : List D} (h : Mt P w K mg base ct c x k m dds) : Mt P w K mg base ct c x k (Mi.trim m) dds := by
  obtain ⟨f, fd, ps, ds, dvs, h1, h3, h4, h5, h6⟩ := h.ex
  exact ⟨f, fd, ps, ds, dvs, h1, h3, h4, h5, fn_impl h6 fun _ _ _ _ q => spM_trim q⟩
end
def mTrim (m : EM) : EM := fun en S => trimR S (m en S)
section
variable {X : Cx} {ct : Tb} {W : WX} {e : Expr}
theorem me_trim {m : EM} (h : PE X e (tM X.K ct W m)) : PE X e (tM X.K ct W (mTrim m)) := pe_weak h fun σ H Q h => by
  obtain ⟨w, S, en, rfl, st, ev, h⟩ := h
  exact ⟨w, S, en, rfl, st, ev, wp_trim st h⟩
end
end Mi
/-! The mirror layer, level 2: how mirrors are read in plain Lean. -/
namespace Mi
open PySem L2
/-! ### numbers -/
/-- small enough for a product -/
def Sm (i : Int) : Prop := i.natAbs.log2 < 40000000
theorem log2_le_of {n k : Nat} (h : n < 2 ^ k) : n.log2 ≤ k := by
  by_cases h0 : n = 0
  · subst h0; simp
  · exact Nat.le_of_lt ((Nat.log2_lt h0).mpr h)
theorem sm_of {i : Int} (h : i.natAbs < 2 ^ 128) : Sm i := Nat.lt_of_le_of_lt (log2_le_of h) (by decide)
theorem sm_bits {i : Int} (h : PySem.Builtin.Int.intBits i ≤ 1048576) : i.natAbs.log2 < 1048576 := by
  unfold PySem.Builtin.Int.intBits at h
  split at h
  · rename_i e
    have : i = 0 := by simpa using e
    subst this
    decide
  · omega
theorem log2_add {a b n : Nat} (ha : a.log2 < n) (hb : b.log2 < n) : (a + b).log2 < n + 1 := by
  have h : ∀ x : Nat, x.log2 < n → x < 2 ^ n := fun x hx => by
    by_cases h0 : x = 0
    · subst h0; exact Nat.two_pow_pos n
    · exact (Nat.log2_lt h0).mp hx
  have h1 := h a ha
  have h2 := h b hb
  by_cases h0 : a + b = 0
  · rw [h0]; simp
  · exact (Nat.log2_lt h0).mpr (by rw [Nat.pow_succ]; omega)
theorem log2_mono {a b : Nat} (h : a ≤ b) : a.log2 ≤ b.log2 := by
  by_cases h0 : a = 0
  · subst h0; simp
  · exact (Nat.le_log2 (by omega)).mpr (Nat.le_trans (Nat.log2_self_le h0) h)
theorem dMulI_sm {i j : Int} {S : Sto} (hi : Sm i) (hj : Sm j) : dMulI (.int i) (.int j) S = some (.int (i * j)) := by
  unfold dMulI dInt2
  unfold Sm at hi hj
  simp only [decide_eq_true_eq]
  rw [if_pos (by omega)]
theorem dAdd_int {i j : Int} {S : Sto} : dAdd (.int i) (.int j) S = some (.int (i + j)) := rfl
theorem dSub_int {i j : Int} {S : Sto} : dSub (.int i) (.int j) S = some (.int (i - j)) := rfl
theorem dMod_pos {i j : Int} {S : Sto} (h : 0 < j) : dMod (.int i) (.int j) S = some (.int (i % j)) := by
  unfold dMod dInt2
  simp [h]
theorem dFDiv_pos {i j : Int} {S : Sto} (h : 0 < j) (h2 : j < 2 ^ 64) : dFDiv (.int i) (.int j) S = some (.int (i / j)) := by
  unfold dFDiv dInt2
  have : j.natAbs.log2 < 9000 := Nat.lt_of_le_of_lt (log2_le_of (k := 64) (by omega)) (by decide)
  simp [h, this]
theorem dLt_int {i j : Int} {S : Sto} : dLt (.int i) (.int j) S = some (.bl (decide (i < j))) := rfl
theorem dLe_int {i j : Int} {S : Sto} : dLe (.int i) (.int j) S = some (.bl (decide (i ≤ j))) := rfl
theorem dGt_int {i j : Int} {S : Sto} : dGt (.int i) (.int j) S = some (.bl (decide (j < i))) := rfl
theorem dGe_int {i j : Int} {S : Sto} : dGe (.int i) (.int j) S = some (.bl (decide (j ≤ i))) := rfl
theorem dNeg_int {i : Int} {S : Sto} : dNeg (.int i) S = some (.int (-i)) := rfl
theorem dPow_small {i j : Int} {S : Sto} (h : 0 ≤ j ∧ j ≤ 1000000 ∧ i.natAbs < 2 ^ 64) : dPow (.int i) (.int j) S = some (.int (i ^ j.toNat)) := by
  unfold dPow dInt2
  exact if_pos (decide_eq_true h)
theorem dEq_int {i j : Int} {S : Sto} : dEq (.int i) (.int j) S = some (.bl (decide (i = j))) := by
  unfold dEq pdS pd
  show (if _ then some (D.bl (PyData.eqv (.int i) (.int j))) else none) = _
  rw [if_pos ⟨rfl, rfl⟩]
  unfold PyData.eqv
  rfl
theorem dNe_int {i j : Int} {S : Sto} : dNe (.int i) (.int j) S = some (.bl (!decide (i = j))) := by
  unfold dNe pdS pd
  show (if _ then some (D.bl (!PyData.eqv (.int i) (.int j))) else none) = _
  rw [if_pos ⟨rfl, rfl⟩]
  unfold PyData.eqv
  rfl
theorem dEq_bl {i j : Bool} {S : Sto} : dEq (.bl i) (.bl j) S = some (.bl (i == j)) := by
  unfold dEq pdS pd
  show (if _ then some (D.bl (PyData.eqv (.bool i) (.bool j))) else none) = _
  rw [if_pos ⟨rfl, rfl⟩]
  unfold PyData.eqv
  rfl
theorem dNe_bl {i j : Bool} {S : Sto} : dNe (.bl i) (.bl j) S = some (.bl (!(i == j))) := by
  unfold dNe pdS pd
  show (if _ then some (D.bl (!PyData.eqv (.bool i) (.bool j))) else none) = _
  rw [if_pos ⟨rfl, rfl⟩]
  unfold PyData.eqv
  rfl
theorem dIsN_non {S : Sto} : dIsN .non .non S = some (.bl true) := rfl
theorem dIsN_int {i : Int} {S : Sto} : dIsN (.int i) .non S = some (.bl false) := rfl
theorem dIsN_str {i : Str} {S : Sto} : dIsN (.str i) .non S = some (.bl false) := rfl
theorem dIsN_lst {i : List D} {S : Sto} : dIsN (.lst i) .non S = some (.bl false) := rfl
theorem dIsN_tup {i : List D} {S : Sto} : dIsN (.tup i) .non S = some (.bl false) := rfl
end Mi
namespace Mi
open PySem L2
/-! ### lists of numbers, texts, truths -/
theorem asInts_map : ∀ xs : List Int, asInts (xs.map D.int) = some xs
  | [] => rfl
  | x :: xs => by simp [asInts, asInts_map xs]
theorem asStrs_map : ∀ xs : List Str, asStrs (xs.map D.str) = some xs
  | [] => rfl
  | x :: xs => by simp [asStrs, asStrs_map xs]
theorem asBs_map : ∀ xs : List Bool, asBs (xs.map D.bl) = some xs
  | [] => rfl
  | x :: xs => by simp [asBs, asBs_map xs]
theorem asInts_mapf {α : Type} (f : α → Int) (xs : List α) : asInts (xs.map fun x => D.int (f x)) = some (xs.map f) := by
  have := asInts_map (xs.map f)
  rwa [List.map_map] at this
theorem asStrs_mapf {α : Type} (f : α → Str) (xs : List α) : asStrs (xs.map fun x => D.str (f x)) = some (xs.map f) := by
  have := asStrs_map (xs.map f)
  rwa [List.map_map] at this
theorem asBs_mapf {α : Type} (f : α → Bool) (xs : List α) : asBs (xs.map fun x => D.bl (f x)) = some (xs.map f) := by
  have := asBs_map (xs.map f)
  rwa [List.map_map] at this
theorem toVs_ints : ∀ xs : List Int, toVs (xs.map D.int) = some (xs.map V.int)
  | [] => rfl
  | x :: xs => by simp [toVs, toV, toVs_ints xs]
theorem toVs_strs : ∀ xs : List Str, toVs (xs.map D.str) = some (xs.map V.str)
  | [] => rfl
  | x :: xs => by simp [toVs, toV, toVs_strs xs]
theorem rng_eq (lo : Int) (n : Nat) : rng lo 1 n = (List.range n).map fun (i : Nat) => D.int (lo + (i : Int)) := by
  unfold rng
  exact List.map_congr_left fun i _ => by rw [Int.mul_one]
theorem sizeLine_v : sizeLine = 16777216 := by decide
/-! ### comprehensions -/
theorem compL_ok {chk : Sto → Bool} {g : Tg} {t : TM} {el : EM} {en : En} {S : Sto} {α : Type} (inj : α → D) (p : α → Bool) (F : α → D) (hc : chk S = true) : ∀ (xs : List α) (acc : List D), acc.length + xs.length ≤ sizeLine →
    (∀ x ∈ xs, ∃ en1, asgn g (inj x) en S = some en1 ∧ t en1 S = .ok (p x) S ∧ (p x = true → el en1 S = .ok (F x) S)) → compL chk g t el en (xs.map inj) acc S = .ok (acc ++ (xs.filter p).map F) S
  | [], acc, _, _ => by simp [compL, hc]
  | x :: xs, acc, hz, h => by
    obtain ⟨en1, h1, h2, h3⟩ := h x List.mem_cons_self
    rw [List.map_cons]
    unfold compL
    rw [if_pos hc, h1]
    dsimp only
    rw [h2]
    dsimp only
    simp only [List.length_cons] at hz
    cases hp : p x with
    | false =>
      rw [if_neg (by simp), compL_ok inj p F hc xs acc (by omega) fun y hy => h y (List.mem_cons_of_mem _ hy)]
      simp [hp]
    | true =>
      rw [if_pos rfl, h3 hp]
      dsimp only
      rw [if_pos (by omega), compL_ok inj p F hc xs _ (by simp; omega) fun y hy => h y (List.mem_cons_of_mem _ hy)]
      simp [hp]
theorem lComp_fil {mi : IM} {g : Tg} {t : TM} {el : EM} {vs : List Nat} {en : En} {S : Sto} {chk : Sto → Bool} {α : Type} {ds : List D} (xs : List α) (inj : α → D) (p : α → Bool) (F : α → D) (hi : mi en S = .ok (ds, chk) S) (hd : ds = xs.map inj) (hc : chk S = true) (hz : xs.length ≤ sizeLine)
    (h : ∀ x ∈ xs, ∃ en1, asgn g (inj x) (wipeD en vs) S = some en1 ∧ t en1 S = .ok (p x) S ∧ (p x = true → el en1 S = .ok (F x) S)) : lComp mi g t el vs en S = .ok ((xs.filter p).map F) S := by
  unfold lComp
  rw [hi]
  subst hd
  show compL chk g t el (wipeD en vs) (xs.map inj) [] S = _
  rw [compL_ok inj p F hc xs [] (by simpa using hz) h]
  simp
theorem lComp_map {mi : IM} {g : Tg} {el : EM} {vs : List Nat} {en : En} {S : Sto} {chk : Sto → Bool} {α : Type} {ds : List D} (xs : List α) (inj : α → D) (F : α → D) (hi : mi en S = .ok (ds, chk) S) (hd : ds = xs.map inj) (hc : chk S = true) (hz : xs.length ≤ sizeLine)
    (h : ∀ x ∈ xs, ∃ en1, asgn g (inj x) (wipeD en vs) S = some en1 ∧ el en1 S = .ok (F x) S) : lComp mi g mYes el vs en S = .ok (xs.map F) S := by
  have := lComp_fil (t := mYes) xs inj (fun _ => true) F hi hd hc hz fun x hx => by
    obtain ⟨en1, h1, h2⟩ := h x hx
    exact ⟨en1, h1, rfl, fun _ => h2⟩
  rw [this, List.filter_eq_self.mpr fun _ _ => rfl]
/-! ### loops -/
theorem forL_run {chk : Sto → Bool} {g : Tg} {body : SM} {α : Type} (inj : α → D) (I : List α → En → Sto → Prop) (R : RSt → Prop) (hc : ∀ xs en S, I xs en S → chk S = true)
    (hs : ∀ x xs en S, I (x :: xs) en S → ∃ en1, asgn g (inj x) en S = some en1 ∧ ((∃ en2 S2, body en1 S = .nx en2 S2 ∧ I xs en2 S2) ∨ (∃ d S2, body en1 S = .rt d S2 ∧ R (.rt d S2)) ∨ (∃ c en2 S2, body en1 S = .exc c en2 S2 ∧ R (.exc c en2 S2))))
    (hd : ∀ en S, I [] en S → R (.nx en S)) : ∀ xs en S, I xs en S → R (forL chk g body (xs.map inj) en S)
  | [], en, S, h => by
    rw [List.map_nil]
    unfold forL
    rw [if_pos (hc _ _ _ h)]
    exact hd en S h
  | x :: xs, en, S, h => by
    rw [List.map_cons]
    unfold forL
    rw [if_pos (hc _ _ _ h)]
    obtain ⟨en1, h1, h2⟩ := hs x xs en S h
    rw [h1]
    dsimp only
    rcases h2 with ⟨en2, S2, e, h3⟩ | ⟨d, S2, e, h3⟩ | ⟨c, en2, S2, e, h3⟩
    · rw [e]; exact forL_run inj I R hc hs hd xs en2 S2 h3
    · rw [e]; exact h3
    · rw [e]; exact h3
theorem stays_ref {i : Nat} {ds : List D} {S : Sto} (h : S[i]? = some (.lst ds)) : stays (.ref i) ds S = true := by
  unfold stays
  dsimp only
  rw [h]
  exact beqDs_refl ds
/-! ### texts -/
theorem mIn_sign {a b : EM} {en : En} {S : Sto} {c : Nat} {z : Str} {f : Bool → Bool} (ha : a en S = .ok (.str ⟨#[c]⟩) S) (hb : b en S = .ok (.str z) S) : mIn f a b en S = .ok (.bl (f (decide (c ∈ z.cps.toList)))) S := by
  unfold mIn
  rw [ha]
  show ((b en S).bind _) = _
  rw [hb]
  rfl
theorem join_flat (ys : List Nat) : Txt.join (Str.ofString "") (ys.map fun c => (⟨#[c]⟩ : Str)) = ⟨ys.toArray⟩ := by
  rw [TL.join_eq]
  have key : ∀ ys : List Nat, TL.tl (Str.join (Str.ofString "") (ys.map fun c => (⟨#[c]⟩ : Str))) = ys := fun ys => by
    rw [TL.tl_join]
    have e : TL.tl (Str.ofString "") = [] := rfl
    rw [e]
    have k2 : ∀ zs : List (List Nat), TL.joinL [] zs = zs.flatten := fun zs => by
      induction zs with
      | nil => rfl
      | cons p r ih =>
        cases r with
        | nil => simp [TL.joinL]
        | cons q r => rw [TL.joinL, ih]; simp
    rw [k2, List.map_map]
    induction ys with
    | nil => rfl
    | cons y ys ih => rw [List.map_cons, List.flatten_cons, ih]; rfl
  have h := key ys
  have : ∀ z : Str, TL.tl z = ys → z = ⟨ys.toArray⟩ := fun z hz => by
    cases z with
    | mk cps => 
      have : cps.toList = ys := hz
      rw [← this]
  exact this _ h
end Mi
namespace Mi
open PySem L2
/-! ### mirrors where they stand applied -/
section
variable (f : Op2) (u : D → Sto → Option D) (o : OpN) (a b c : EM) (n : AM) (l : AM) (t t2 : TM) (p q : SM) (en : En) (S : Sto) (i : Nat) (d : D) (m : FM) (dds : List D)
theorem a_runB (np k : Nat) (ds : List D) : runB np k p ds S = if ds.length = np then match p (ds.map some ++ List.replicate (k - np) none) S with
  | .nx _ S' => .ok .non S'
  | .rt d S' => .ok d S'
  | .exc x _ S' => .exc x S'
  | _ => .bad
  else .bad := rfl
theorem a_sSeq : sSeq p q en S = (p en S).seq q := rfl
theorem a_sAsg (g : Tg) : sAsg g a en S = (a en S).then en fun d S1 => match asgn g d en S1 with
  | some en1 => .nx en1 S1
  | none => .bad := rfl
theorem a_sRet : sRet a en S = (a en S).then en fun d S => .rt d S := rfl
theorem a_sRetN : sRetN en S = .rt .non S := rfl
theorem a_sExp : sExp a en S = (a en S).then en fun _ S => .nx en S := rfl
theorem a_sNil : sNil en S = .nx en S := rfl
theorem a_sIf : sIf t p q en S = (t en S).then en fun c S => if c = true then p en S else q en S := rfl
theorem a_sFor (mi : IM) (g : Tg) : sFor mi g p en S = (mi en S).then en fun r S1 => forL r.2 g p r.1 en S1 := rfl
theorem a_sRaise (c : Nat) : sRaise c en S = .exc ⟨c, []⟩ en S := rfl
theorem a_mVar : mVar i en S = match en[i]? with
  | some (some d) => .ok d S
  | _ => .bad := rfl
theorem a_mC : mC d en S = .ok d S := rfl
theorem a_mBin : mBin f a b en S = (a en S).bind fun x S1 => (b en S1).bind fun y S2 => opt (f x y S2) S2 := rfl
theorem a_mUn : mUn u a en S = (a en S).bind fun x S1 => opt (u x S1) S1 := rfl
theorem a_mNil : mNil en S = .ok [] S := rfl
theorem a_mCons : mCons a n en S = (a en S).bind fun x S1 => (n en S1).bind fun xs S2 => .ok (x :: xs) S2 := rfl
theorem a_mOpN : mOpN o n en S = (n en S).bind fun xs S1 => opt (o xs S1) S1 := rfl
theorem a_mTest : mTest a en S = (a en S).bind asB := rfl
theorem a_mAnd : mAnd t t2 en S = (t en S).bind fun x S1 => if x = true then t2 en S1 else .ok false S1 := rfl
theorem a_mOr : mOr t t2 en S = (t en S).bind fun x S1 => if x = true then .ok true S1 else t2 en S1 := rfl
theorem a_mNot : mNot t en S = (t en S).bind fun x S1 => .ok (!x) S1 := rfl
theorem a_mAndV : mAndV a b en S = (a en S).bind fun x S1 => match x with
  | .bl c => if c = true then b en S1 else .ok (.bl false) S1
  | _ => .bad := rfl
theorem a_mOrV : mOrV a b en S = (a en S).bind fun x S1 => match x with
  | .bl c => if c = true then .ok (.bl true) S1 else b en S1
  | _ => .bad := rfl
theorem a_mNotV : mNotV a en S = (a en S).bind fun x S1 => match x with
  | .bl c => .ok (.bl (!c)) S1
  | _ => .bad := rfl
theorem a_mIf : mIf t a b en S = (t en S).bind fun x S1 => if x = true then a en S1 else b en S1 := rfl
theorem a_mChain (g : Op2) : mChain f g a b c en S = (a en S).bind fun x S1 => (b en S1).bind fun y S2 => (opt (f x y S2) S2).bind fun z S3 => match z with
  | .bl k => if k = true then (c en S3).bind fun u S4 => opt (g y u S4) S4 else .ok (.bl false) S3
  | _ => .bad := rfl
theorem a_mTup : mTup n en S = (n en S).bind fun xs S1 => if xs.length ≤ sizeLine then .ok (.tup xs) S1 else .bad := rfl
theorem a_lDis : lDis n en S = (n en S).bind fun xs S1 => if xs.length ≤ sizeLine then .ok xs S1 else .bad := rfl
theorem a_mFrz : mFrz n en S = (n en S).bind fun xs S1 => .ok (.lst xs) S1 := rfl
theorem a_mNew : mNew n en S = (n en S).bind fun xs S1 => .ok (.ref S1.length) (S1 ++ [.lst xs]) := rfl
theorem a_mCall : mCall m dds n en S = (n en S).bind fun ds S1 => m (ds ++ dds) S1 := rfl
theorem a_mMeth (tb : List (Nat × FM)) : mMeth tb dds a n en S = (a en S).bind fun d S1 => match asI S1 d with
  | some (c, _) => match tb.lookup c with
    | some m => (n en S1).bind fun ds S2 => m (d :: (ds ++ dds)) S2
    | none => .bad
  | none => .bad := rfl
theorem a_mMake (k : Nat) : mMake k m dds n en S = (n en S).bind fun ds S1 => (m (.ref S1.length :: (ds ++ dds)) (S1 ++ [.ins k []])).bind fun r S2 => match r with
  | .non => .ok (.ref S1.length) S2
  | _ => .bad := rfl
theorem a_mIsi (Ts : List BT) : mIsi Ts a en S = (a en S).bind fun x S1 => match tyD S1 x with
  | some t => .ok (.bl (Ts.any (isB t))) S1
  | none => .bad := rfl
theorem a_mPart : mPart a en S = (a en S).bind fun d S1 => match d with
  | .int i => .ok (some i) S1
  | _ => .bad := rfl
theorem a_mNoPart : mNoPart en S = .ok none S := rfl
theorem a_mFld : mFld i a en S = (a en S).bind fun d S1 => match asI S1 d with
  | some (_, fs) => opt (fs.lookup i) S1
  | none => .bad := rfl
theorem a_sFldS (cl : List Nat) : sFldS cl i a b en S = (b en S).then en fun x S1 => (a en S1).then en fun d S2 => match d with
  | .ref j => match S2[j]? with
    | some (.ins c fs) => if cl.contains c = true ∧ fs.length < 1000 then .nx en (S2.set j (.ins c (putI i x fs))) else .bad
    | _ => .bad
  | _ => .bad := rfl
theorem a_mFreeze : mFreeze a en S = (a en S).bind fun d S1 => match frz 8 d S1 with
  | some (d', S2) => .ok d' S2
  | none => .bad := rfl
theorem a_mTrim : mTrim a en S = trimR S (a en S) := rfl
theorem a_mSl (lo hi : En → Sto → Rs (Option Int)) : mSl a lo hi en S = (a en S).bind fun x S1 => (lo en S1).bind fun l S2 => (hi en S2).bind fun h S3 => match dSl x l h with
  | some d => .ok d S3
  | none => match asL S3 x with
    | some ds => .ok (.lst (cutD ds l h)) S3
    | none => .bad := rfl
theorem a_mAppend : mAppend a n en S = (a en S).bind fun x S1 => match lstAt S1 x with
  | none => .bad
  | some _ => (n en S1).bind fun ys S2 => match lstAt S2 x, ys with
    | some (i, ds), [y] => if ds.length < sizeLine then .ok .non (S2.set i (.lst (ds ++ [y]))) else .bad
    | _, _ => .bad := rfl
theorem a_mDct : mDct en S = .ok (.ref S.length) (S ++ [.dct []]) := rfl
theorem a_sDput : sDput a b c en S = (c en S).then en fun v S1 => (a en S1).then en fun d S2 => (b en S2).then en fun k S3 => match dctPut S3 d k v with
  | some S4 => .nx en S4
  | none => .bad := rfl
theorem a_lSortI : lSortI n en S = (n en S).bind fun xs S1 => match xs with
  | [x] => match asL S1 x with
    | some ds => match asInts ds with
      | some ns => .ok ((sortI ns).map D.int) S1
      | none => .bad
    | none => .bad
  | _ => .bad := rfl
theorem a_lRev : lRev a en S = (a en S).bind fun x S1 => match asL S1 x with
  | some ds => .ok ds.reverse S1
  | none => .bad := rfl
theorem a_lRep : lRep n b en S = (n en S).bind fun xs S1 => (b en S1).bind fun y S2 => match y with
  | .int k => if -(2 ^ 63) ≤ k ∧ k < 2 ^ 63 ∧ xs.length * k.toNat ≤ sizeLine then .ok (List.replicate k.toNat xs).flatten S2 else .bad
  | _ => .bad := rfl
theorem a_sLput : sLput a b c en S = (c en S).then en fun v S1 => (a en S1).then en fun o S2 => (b en S2).then en fun k S3 => match lstAt S3 o, k with
  | some (i, ds), .int z => match ixN ds.length z with
    | some j => .nx en (S3.set i (.lst (ds.set j v)))
    | none => .bad
  | _, _ => .bad := rfl
end
/-! ### what is walked -/
section
variable {n : AM} {m : EM} {en : En} {S S1 : Sto}
theorem iRange1_ok {j : Int} (h : n en S = .ok [.int j] S1) (h1 : 0 ≤ j ∧ j < 2 ^ 62) : iRange1 n en S = .ok ((List.range j.toNat).map fun (i : Nat) => D.int (i : Int), fun _ => true) S1 := by
  unfold iRange1
  rw [h]
  show (if _ then Rs.ok (rng 0 1 j.toNat, fun _ => true) S1 else .bad) = _
  rw [if_pos ⟨by omega, h1.2⟩, rng_eq]
  simp
theorem iRangeD_ok {j : Int} (h : n en S = .ok [.int j, .int 0, .int (-1)] S1) (h1 : 0 ≤ j ∧ j < 2 ^ 62) : iRangeD n en S = .ok ((List.range j.toNat).map fun (i : Nat) => D.int (j - (i : Int)), fun _ => true) S1 := by
  unfold iRangeD
  rw [h]
  show (if _ then Rs.ok (rng j (-1) (j - 0).toNat, fun _ => true) S1 else .bad) = _
  rw [if_pos ⟨rfl, by omega, h1.2, by decide, by decide⟩]
  have e : j - 0 = j := by omega
  rw [e]
  unfold rng
  have : (fun (i : Nat) => D.int (j + (i : Int) * -1)) = fun (i : Nat) => D.int (j - (i : Int)) := by
    funext i
    congr 1
    omega
  rw [this]
theorem iSeq_lst {ds : List D} (h : m en S = .ok (.lst ds) S1) : iSeq m en S = .ok (ds, fun _ => true) S1 := by
  unfold iSeq
  rw [h]
  rfl
theorem iSeq_tup {ds : List D} (h : m en S = .ok (.tup ds) S1) : iSeq m en S = .ok (ds, fun _ => true) S1 := by
  unfold iSeq
  rw [h]
  rfl
theorem iSeq_ref {ds : List D} {i : Nat} (h : m en S = .ok (.ref i) S1) (hi : S1[i]? = some (.lst ds)) : iSeq m en S = .ok (ds, stays (.ref i) ds) S1 := by
  unfold iSeq
  rw [h]
  have e : asSeq S1 (.ref i) = some ds := by
    unfold asSeq asT asL
    dsimp only
    rw [hi]
  show (match asSeq S1 (.ref i) with
    | some ds => Rs.ok (ds, stays (.ref i) ds) S1
    | none => _) = _
  rw [e]
theorem iSeq_str {z : Str} (h : m en S = .ok (.str z) S1) : iSeq m en S = .ok (z.cps.toList.map fun c => D.str ⟨#[c]⟩, fun _ => true) S1 := by
  unfold iSeq
  rw [h]
  rfl
theorem iEnum_lst {ds : List D} (h : n en S = .ok [.lst ds] S1) : iEnumD n en S = .ok (enumD ds, fun _ => true) S1 := by
  unfold iEnumD
  rw [h]
  rfl
theorem iZip_lst {ds es : List D} (h : n en S = .ok [.lst ds, .lst es] S1) : iZipD n en S = .ok (zipD ds es, fun _ => true) S1 := by
  unfold iZipD
  rw [h]
  rfl
theorem iZip_tup {ds es : List D} (h : n en S = .ok [.tup ds, .tup es] S1) : iZipD n en S = .ok (zipD ds es, fun _ => true) S1 := by
  unfold iZipD
  rw [h]
  rfl
theorem zipD_map {α β : Type} (f : α → D) (g : β → D) (xs : List α) (ys : List β) : zipD (xs.map f) (ys.map g) = (xs.zip ys).map fun p => D.tup [f p.1, g p.2] := by
  apply List.ext_getElem?
  intro i
  unfold zipD
  by_cases h : i < min xs.length ys.length
  · have h1 : i < xs.length := by omega
    have h2 : i < ys.length := by omega
    have e : (xs.zip ys)[i]? = some (xs[i], ys[i]) := by simp [List.getElem?_zip_eq_some, h1, h2]
    have e2 : min (xs.map f).length (ys.map g).length = min xs.length ys.length := by simp
    rw [e2, List.getElem?_map, List.getElem?_map, e, List.getElem?_range h]
    simp [h1, h2]
  · rw [List.getElem?_eq_none (by simp; omega), List.getElem?_eq_none (by simp; omega)]
theorem enumD_map {α : Type} (f : α → D) (xs : List α) : enumD (xs.map f) = (xs.zipIdx).map fun p => D.tup [.int (p.2 : Int), f p.1] := by
  apply List.ext_getElem?
  intro i
  unfold enumD
  by_cases h : i < xs.length
  · simp [h, List.getElem?_map, List.getElem?_range]
  · rw [List.getElem?_eq_none (by simp; omega), List.getElem?_eq_none (by simp; omega)]
end
end Mi
namespace Mi
open PySem L2
/-! ### places -/
theorem dIx_lst {ds : List D} {j : Int} {d : D} {S : Sto} (h : atI ds j = some d) : dIx (.lst ds) (.int j) S = some d := h
theorem dIx_tup {ds : List D} {j : Int} {d : D} {S : Sto} (h : atI ds j = some d) : dIx (.tup ds) (.int j) S = some d := h
theorem dIx_ref {ds : List D} {i : Nat} {j : Int} {d : D} {S : Sto} (hi : S[i]? = some (.lst ds)) (h : atI ds j = some d) : dIx (.ref i) (.int j) S = some d := by
  unfold dIx
  have e1 : dGet S (.ref i) (.int j) = none := by
    unfold dGet asK asKT
    dsimp only
    rw [hi]
  have e2 : asSeq S (.ref i) = some ds := by
    unfold asSeq asT asL
    dsimp only
    rw [hi]
  rw [e1]
  dsimp only
  rw [e2]
  exact h
theorem atI_nat {α : Type} {xs : List α} {j : Nat} {x : α} (h : xs[j]? = some x) : atI xs (j : Int) = some x := by
  unfold atI ixN
  have hl := (List.getElem?_eq_some_iff.mp h).1
  rw [if_pos (by omega), if_pos (by omega)]
  simpa using h
theorem lstAt_ref {ds : List D} {i : Nat} {S : Sto} (hi : S[i]? = some (.lst ds)) : lstAt S (.ref i) = some (i, ds) := by
  unfold lstAt
  dsimp only
  rw [hi]
theorem asL_ref {ds : List D} {i : Nat} {S : Sto} (hi : S[i]? = some (.lst ds)) : asL S (.ref i) = some ds := by
  unfold asL
  dsimp only
  rw [hi]
theorem inV_ints {b : Int} : ∀ bs : List Int, inV (.int b) (bs.map V.int) = decide (b ∈ bs)
  | [] => by simp [inV]
  | x :: bs => by
    have ih := inV_ints (b := b) bs
    unfold inV at ih ⊢
    rw [List.map_cons, List.any_cons, ih]
    show (x == b || decide (b ∈ bs)) = _
    by_cases h : x = b
    · subst h; simp
    · have : ¬ b = x := fun e => h e.symm
      simp [h, this]
theorem inV_strs {b : Str} : ∀ bs : List Str, inV (.str b) (bs.map V.str) = decide (b ∈ bs)
  | [] => by simp [inV]
  | x :: bs => by
    have ih := inV_strs (b := b) bs
    unfold inV at ih ⊢
    rw [List.map_cons, List.any_cons, ih]
    show (x == b || decide (b ∈ bs)) = _
    by_cases h : x = b
    · subst h; simp
    · have : ¬ b = x := fun e => h e.symm
      simp [h, this]
theorem mIn_ints_ref {a b : EM} {en : En} {S : Sto} {x : Int} {i : Nat} {bs : List Int} {f : Bool → Bool} (ha : a en S = .ok (.int x) S) (hb : b en S = .ok (.ref i) S) (hi : S[i]? = some (.lst (bs.map .int))) : mIn f a b en S = .ok (.bl (f (decide (x ∈ bs)))) S := by
  unfold mIn
  rw [ha]
  show ((b en S).bind _) = _
  rw [hb]
  have e1 : dGet S (.ref i) (.int x) = none := by
    unfold dGet asK asKT
    dsimp only
    rw [hi]
  show (match dGet S (.ref i) (.int x) with
    | some o => Rs.ok (D.bl (f o.isSome)) S
    | none => opt (dInO f (.int x) (.ref i) S) S) = _
  rw [e1]
  dsimp only
  unfold dInO alt dInF hasF asSeq asT
  dsimp only
  rw [asL_ref hi]
  dsimp only
  rw [toVs_ints]
  show opt (some (D.bl (f (inV (.int x) (bs.map V.int))))) S = _
  rw [inV_ints]
  rfl
theorem mIn_ints_lst {a b : EM} {en : En} {S : Sto} {x : Int} {bs : List Int} {f : Bool → Bool} (ha : a en S = .ok (.int x) S) (hb : b en S = .ok (.lst (bs.map .int)) S) : mIn f a b en S = .ok (.bl (f (decide (x ∈ bs)))) S := by
  unfold mIn
  rw [ha]
  show ((b en S).bind _) = _
  rw [hb]
  show opt (dInO f (.int x) (.lst (bs.map .int)) S) S = _
  unfold dInO alt dInF hasF asSeq asT asL
  dsimp only
  rw [toVs_ints]
  show opt (some (D.bl (f (inV (.int x) (bs.map V.int))))) S = _
  rw [inV_ints]
  rfl
theorem mIn_strs_lst {a b : EM} {en : En} {S : Sto} {x : Str} {bs : List Str} {f : Bool → Bool} (ha : a en S = .ok (.str x) S) (hb : b en S = .ok (.lst (bs.map .str)) S) : mIn f a b en S = .ok (.bl (f (decide (x ∈ bs)))) S := by
  unfold mIn
  rw [ha]
  show ((b en S).bind _) = _
  rw [hb]
  show opt (dInO f (.str x) (.lst (bs.map .str)) S) S = _
  unfold dInO alt dInF hasF asSeq asT asL
  dsimp only
  rw [toVs_strs]
  show opt (some (D.bl (f (inV (.str x) (bs.map V.str))))) S = _
  rw [inV_strs]
  rfl
theorem set_last {S : Sto} {o o' : SO} : (S ++ [o]).set S.length o' = S ++ [o'] := by simp
theorem get_last {S : Sto} {o : SO} : (S ++ [o])[S.length]? = some o := by simp
theorem append_ok {o : EM} {n : AM} {en : En} {S : Sto} {i : Nat} {ds : List D} {y : D} (ho : o en S = .ok (.ref i) S) (hi : S[i]? = some (.lst ds)) (hn : n en S = .ok [y] S) (hz : ds.length < sizeLine) : mAppend o n en S = .ok .non (S.set i (.lst (ds ++ [y]))) := by
  rw [a_mAppend, ho]
  show (match lstAt S (.ref i) with
    | none => Rs.bad
    | some _ => _) = _
  rw [lstAt_ref hi]
  dsimp only
  rw [hn]
  dsimp only [Rs.bind]
  rw [lstAt_ref hi]
  dsimp only
  rw [if_pos hz]
theorem sortI_perm (ns : List Int) : (sortI ns).Perm ns := List.mergeSort_perm ns _
theorem sortI_le (ns : List Int) : (sortI ns).Pairwise (· ≤ ·) := by
  have := List.pairwise_mergeSort (le := fun a b : Int => decide (a ≤ b)) (fun a b c h1 h2 => by simp at *; omega) (fun a b => by simp; omega) ns
  exact this.imp fun h => by simpa using h
theorem sortI_lt {ns : List Int} (h : ns.Nodup) : (sortI ns).Pairwise (· < ·) := by
  have h1 := sortI_le ns
  have h2 : (sortI ns).Nodup := (sortI_perm ns).nodup_iff.mpr h
  exact (List.pairwise_and_iff.mpr ⟨h1, h2⟩).imp fun h => by omega
end Mi
namespace Mi
open PySem L2
/-! ### a body that returns a value and leaves the store as it was, but for new things -/
def Gv (d : D) (S0 : Sto) (r : RSt) : Prop := ∃ J, r = .rt d (S0 ++ J)
theorem gv_trim {np k : Nat} {p : SM} {ds : List D} {S : Sto} {d : D} (hl : ds.length = np) (h : Gv d S (p (ds.map some ++ List.replicate (k - np) none) S)) (hn : noRef d = true) : trim (runB np k p) ds S = .ok d S := by
  obtain ⟨J, e⟩ := h
  refine trim_pure (J := J) ?_ hn
  rw [a_runB, if_pos hl, e]
theorem gv_nx {a b : SM} {en en1 : En} {S S1 S0 : Sto} {d : D} (h : a en S = .nx en1 S1) (h2 : Gv d S0 (b en1 S1)) : Gv d S0 (sSeq a b en S) := by
  rw [a_sSeq, h]
  exact h2
theorem gv_ret {m : EM} {en : En} {S S0 J : Sto} {d : D} (h : m en S = .ok d (S0 ++ J)) : Gv d S0 (sRet m en S) := ⟨J, by rw [a_sRet, h]; rfl⟩
theorem gv_for {mi : IM} {g : Tg} {body b : SM} {en : En} {S S1 S0 : Sto} {d : D} {ds : List D} {chk : Sto → Bool} {α : Type} (xs : List α) (inj : α → D) (I : List α → En → Sto → Prop) (hi : mi en S = .ok (ds, chk) S1) (hd : ds = xs.map inj) (h0 : I xs en S1)
    (hc : ∀ xs en S, I xs en S → chk S = true) (hs : ∀ x xs en S, I (x :: xs) en S → ∃ en1, asgn g (inj x) en S = some en1 ∧ ((∃ en2 S2, body en1 S = .nx en2 S2 ∧ I xs en2 S2) ∨ ∃ J, body en1 S = .rt d (S0 ++ J)))
    (he : ∀ en S, I [] en S → Gv d S0 (b en S)) : Gv d S0 (sSeq (sFor mi g body) b en S) := by
  rw [a_sSeq, a_sFor, hi]
  subst hd
  show Gv d S0 ((forL chk g body (xs.map inj) en S1).seq b)
  refine forL_run inj I (fun r => Gv d S0 (r.seq b)) hc (fun x xs en S h => ?_) he xs en S1 h0
  obtain ⟨en1, h1, h2 | ⟨J, h2⟩⟩ := hs x xs en S h
  · exact ⟨en1, h1, .inl h2⟩
  · exact ⟨en1, h1, .inr (.inl ⟨_, _, h2, J, rfl⟩)⟩
/-- a body that returns nothing -/
def Gn (S0 : Sto) (r : RSt) : Prop := ∃ en J, r = .nx en (S0 ++ J)
theorem gn_trim {np k : Nat} {p : SM} {ds : List D} {S : Sto} (hl : ds.length = np) (h : Gn S (p (ds.map some ++ List.replicate (k - np) none) S)) : trim (runB np k p) ds S = .ok .non S := by
  obtain ⟨en, J, e⟩ := h
  refine trim_pure (J := J) ?_ rfl
  rw [a_runB, if_pos hl, e]
end Mi
namespace Mi
theorem set_self {S : Sto} {i : Nat} {o : SO} (h : S[i]? = some o) : S.set i o = S := by
  apply List.ext_getElem?
  intro j
  by_cases hj : i = j
  · subst hj
    rw [List.getElem?_set_self (List.getElem?_eq_some_iff.mp h).1, h]
  · rw [List.getElem?_set_ne hj]
end Mi
namespace Mi
/-! ### freezing what holds nothing -/
theorem frzAll_id {f : D → Sto → Option (D × Sto)} {S : Sto} : ∀ {ds : List D}, (∀ d ∈ ds, f d S = some (d, S)) → frzAll f ds S = some (ds, S)
  | [], _ => rfl
  | d :: ds, h => by
    unfold frzAll
    rw [h d List.mem_cons_self]
    dsimp only
    rw [frzAll_id fun x hx => h x (List.mem_cons_of_mem _ hx)]
theorem frz_ref {n i : Nat} {S : Sto} {ds : List D} (hi : S[i]? = some (.lst ds)) (h : ∀ d ∈ ds, frz n d (S.set i .dead) = some (d, S.set i .dead)) : frz (n + 1) (.ref i) S = some (.lst ds, S.set i .dead) := by
  unfold frz
  dsimp only
  rw [hi]
  dsimp only
  rw [frzAll_id h]
theorem freeze_ref {m : EM} {en : En} {S S1 : Sto} {i : Nat} {ds : List D} (hm : m en S = .ok (.ref i) S1) (hi : S1[i]? = some (.lst ds)) (h : ∀ d ∈ ds, frz 7 d (S1.set i .dead) = some (d, S1.set i .dead)) : mFreeze m en S = .ok (.lst ds) (S1.set i .dead) := by
  rw [a_mFreeze, hm]
  dsimp only [Rs.bind]
  rw [frz_ref hi h]
theorem frz_tup {n : Nat} {S : Sto} {ds : List D} (h : ∀ d ∈ ds, frz n d S = some (d, S)) : frz (n + 1) (.tup ds) S = some (.tup ds, S) := by
  unfold frz
  dsimp only
  rw [frzAll_id h]
theorem frz_int {n : Nat} {S : Sto} {i : Int} : frz (n + 1) (.int i) S = some (.int i, S) := rfl
theorem frz_str {n : Nat} {S : Sto} {i : PySem.Str} : frz (n + 1) (.str i) S = some (.str i, S) := rfl
theorem frz_lst {n : Nat} {S : Sto} {ds : List D} : frz (n + 1) (.lst ds) S = some (.lst ds, S) := rfl
theorem sortI_two (x y : Int) : sortI [x, y] = if x ≤ y then [x, y] else [y, x] := by
  split
  · rename_i h
    exact (sortI_unique (List.Perm.refl _) (by simp [h])).symm
  · rename_i h
    exact (sortI_unique (List.Perm.swap _ _ _) (by simp; omega)).symm
end Mi
namespace Mi
open PySem L2
theorem all_true {α : Type} {xs : List α} {f : α → Bool} (h : ∀ x ∈ xs, f x = true) : (xs.map f).all id = true := by
  rw [List.all_map]
  exact List.all_eq_true.mpr fun x hx => h x hx
/-- all([.. for ..]) -/
theorem all_comp {mi : IM} {g : Tg} {el : EM} {vs : List Nat} {en : En} {S : Sto} {chk : Sto → Bool} {α : Type} {ds : List D} (xs : List α) (inj : α → D) (F : α → Bool) (hi : mi en S = .ok (ds, chk) S) (hd : ds = xs.map inj) (hc : chk S = true) (hz : xs.length ≤ sizeLine)
    (h : ∀ x ∈ xs, ∃ en1, asgn g (inj x) (wipeD en vs) S = some en1 ∧ el en1 S = .ok (.bl (F x)) S) : mOpN oAll (mCons (mFrz (lComp mi g mYes el vs)) mNil) en S = .ok (.bl ((xs.map F).all id)) S := by
  rw [a_mOpN, a_mCons, a_mFrz, lComp_map xs inj (fun x => D.bl (F x)) hi hd hc hz h]
  show opt (match asBs (xs.map fun x => D.bl (F x)) with
    | some bs => some (D.bl (bs.all id))
    | none => none) S = _
  rw [asBs_mapf]
  rfl
theorem sum_comp {mi : IM} {g : Tg} {el : EM} {vs : List Nat} {en : En} {S : Sto} {chk : Sto → Bool} {α : Type} {ds : List D} (xs : List α) (inj : α → D) (F : α → Int) (hi : mi en S = .ok (ds, chk) S) (hd : ds = xs.map inj) (hc : chk S = true) (hz : xs.length ≤ sizeLine)
    (h : ∀ x ∈ xs, ∃ en1, asgn g (inj x) (wipeD en vs) S = some en1 ∧ el en1 S = .ok (.int (F x)) S) : mOpN oSum (mCons (mFrz (lComp mi g mYes el vs)) mNil) en S = .ok (.int (xs.map F).sum) S := by
  rw [a_mOpN, a_mCons, a_mFrz, lComp_map xs inj (fun x => D.int (F x)) hi hd hc hz h]
  show opt (match asInts (xs.map fun x => D.int (F x)) with
    | some bs => some (D.int bs.sum)
    | none => none) S = _
  rw [asInts_mapf]
  rfl
theorem dedI_self : ∀ {ns : List Int}, ns.Nodup → dedI ns = ns
  | [], _ => rfl
  | n :: ns, h => by
    obtain ⟨h1, h2⟩ := List.nodup_cons.mp h
    unfold dedI
    rw [if_neg h1, dedI_self h2]
theorem lenSet_nodup {n : AM} {en : En} {S : Sto} {ns : List Int} (hn : n en S = .ok [.lst (ns.map .int)] S) (h : ns.Nodup) (hz : ns.length < 4000) : mLenSet n en S = .ok (.int (ns.length : Nat)) S := by
  unfold mLenSet
  rw [hn]
  show (match asInts (ns.map D.int) with
    | some ns => if ns.length < 4000 then Rs.ok (D.int ((dedI ns).length : Nat)) S else .bad
    | none => .bad) = _
  rw [asInts_map]
  dsimp only
  rw [if_pos hz, dedI_self h]
/-- a new instance that is frozen at once -/
theorem mk_frz {c : Nat} {m : FM} {dds ds : List D} {n : AM} {en : En} {S S1 J : Sto} {d : D} (hn : n en S = .ok ds S) (hm : m (.ref S.length :: (ds ++ dds)) (S ++ [.ins c []]) = .ok .non S1) (hf : frz 8 (.ref S.length) S1 = some (d, S ++ J)) (hr : noRef d = true) :
    mTrim (mFreeze (mMake c m dds n)) en S = .ok d S := by
  rw [a_mTrim, a_mFreeze, a_mMake, hn]
  dsimp only [Rs.bind]
  rw [hm]
  dsimp only
  rw [hf]
  dsimp only [trimR]
  simp [hr, beqS_refl]
end Mi
namespace Mi
open PySem L2
/-! ### objects in the store -/
theorem fld_last {cl : List Nat} {i c : Nat} {fs : List (Nat × D)} {o n : EM} {en : En} {S : Sto} {x : D} (hm : n en (S ++ [.ins c fs]) = .ok x (S ++ [.ins c fs])) (ho : o en (S ++ [.ins c fs]) = .ok (.ref S.length) (S ++ [.ins c fs])) (hc : cl.contains c = true) (hl : fs.length < 1000) :
    sFldS cl i o n en (S ++ [.ins c fs]) = .nx en (S ++ [.ins c (putI i x fs)]) := by
  rw [a_sFldS, hm]
  dsimp only [Rs.then]
  rw [ho]
  dsimp only
  rw [get_last]
  dsimp only
  rw [if_pos ⟨hc, hl⟩, set_last]
theorem asI_ref {i c : Nat} {fs : List (Nat × D)} {S : Sto} (h : S[i]? = some (.ins c fs)) : asI S (.ref i) = some (c, fs) := by
  unfold asI
  dsimp only
  rw [h]
theorem fld_ref {i j c : Nat} {fs : List (Nat × D)} {o : EM} {en : En} {S : Sto} {d : D} (ho : o en S = .ok (.ref i) S) (h : S[i]? = some (.ins c fs)) (hl : fs.lookup j = some d) : mFld j o en S = .ok d S := by
  rw [a_mFld, ho]
  dsimp only [Rs.bind]
  rw [asI_ref h]
  dsimp only
  rw [hl]
  rfl
theorem fld_obj {j c : Nat} {fs : List (Nat × D)} {o : EM} {en : En} {S : Sto} {d : D} (ho : o en S = .ok (.obj c fs) S) (hl : fs.lookup j = some d) : mFld j o en S = .ok d S := by
  rw [a_mFld, ho]
  dsimp only [Rs.bind, asI]
  rw [hl]
  rfl
theorem meth_obj {c : Nat} {fs : List (Nat × D)} {o : EM} {n : AM} {tb : List (Nat × FM)} {dds ds : List D} {m : FM} {en : En} {S : Sto} {r : Rs D} (ho : o en S = .ok (.obj c fs) S) (ht : tb.lookup c = some m) (hn : n en S = .ok ds S) (hr : m (.obj c fs :: (ds ++ dds)) S = r) : mMeth tb dds o n en S = r := by
  rw [a_mMeth, ho]
  dsimp only [Rs.bind, asI]
  rw [ht]
  dsimp only
  rw [hn]
  exact hr
/-! ### dicts -/
theorem asK_ref {i : Nat} {kds : List (Key × D)} {S : Sto} (h : S[i]? = some (.dct kds)) : asK S (.ref i) = some kds := by
  unfold asK
  dsimp only
  rw [h]
theorem dGet_ref {i : Nat} {kds : List (Key × D)} {S : Sto} {k : D} {kk : Key} (h : S[i]? = some (.dct kds)) (hk : asKey k = some kk) : dGet S (.ref i) k = some (valD kds kk) := by
  unfold dGet
  rw [asK_ref h]
  dsimp only
  rw [hk]
theorem dGet_dct {kds : List (Key × D)} {S : Sto} {k : D} {kk : Key} (hk : asKey k = some kk) : dGet S (.dct kds) k = some (valD kds kk) := by
  unfold dGet asK
  dsimp only
  rw [hk]
theorem mIn_dct {a b : EM} {en : En} {S : Sto} {k d : D} {o : Option D} {f : Bool → Bool} (ha : a en S = .ok k S) (hb : b en S = .ok d S) (hg : dGet S d k = some o) : mIn f a b en S = .ok (.bl (f o.isSome)) S := by
  unfold mIn
  rw [ha]
  show ((b en S).bind _) = _
  rw [hb]
  dsimp only [Rs.bind]
  rw [hg]
theorem valD_none {kvs : List (Key × D)} {k : Key} (h : ∀ q ∈ kvs, q.1 ≠ k) : valD kvs k = none := by
  unfold valD
  rw [List.find?_eq_none.mpr fun q hq => by simpa using h q hq]
  rfl
theorem putD_new {kvs : List (Key × D)} {k : Key} {v : D} (h : ∀ q ∈ kvs, q.1 ≠ k) : putD kvs k v = kvs ++ [(k, v)] := by
  unfold putD
  rw [if_neg]
  simp only [List.any_eq_true, decide_eq_true_eq, not_exists, not_and]
  exact fun q hq => h q hq
theorem putD_len {kvs : List (Key × D)} {k : Key} {v : D} : (putD kvs k v).length ≤ kvs.length + 1 := by
  unfold putD
  split <;> simp
theorem putD_all {kvs : List (Key × D)} {k : Key} {v : D} {P : D → Prop} (h : ∀ q ∈ kvs, P q.2) (hv : P v) : ∀ q ∈ putD kvs k v, P q.2 := by
  unfold putD
  split
  · intro q hq
    obtain ⟨p, hp, rfl⟩ := List.mem_map.mp hq
    split
    · exact hv
    · exact h p hp
  · intro q hq
    rcases List.mem_append.mp hq with hq | hq
    · exact h q hq
    · rw [List.mem_singleton.mp hq]; exact hv
theorem dput_ok {md mk mv : EM} {en : En} {S : Sto} {i : Nat} {kds : List (Key × D)} {k v : D} {kk : Key} (hv : mv en S = .ok v S) (hd : md en S = .ok (.ref i) S) (hk : mk en S = .ok k S) (hi : S[i]? = some (.dct kds)) (hkk : asKey k = some kk) (hz : kds.length < sizeLine) :
    sDput md mk mv en S = .nx en (S.set i (.dct (putD kds kk v))) := by
  rw [a_sDput, hv]
  dsimp only [Rs.then]
  rw [hd]
  dsimp only
  rw [hk]
  dsimp only
  unfold dctPut
  dsimp only
  rw [hi]
  dsimp only
  rw [hkk]
  dsimp only
  rw [if_pos hz]
/-! ### loops that go on -/
theorem for_nx {mi : IM} {g : Tg} {body : SM} {en : En} {S S1 : Sto} {ds : List D} {chk : Sto → Bool} {α : Type} (xs : List α) (inj : α → D) (I : List α → En → Sto → Prop) (hi : mi en S = .ok (ds, chk) S1) (hd : ds = xs.map inj) (h0 : I xs en S1)
    (hc : ∀ xs en S, I xs en S → chk S = true) (hs : ∀ x xs en S, I (x :: xs) en S → ∃ en1, asgn g (inj x) en S = some en1 ∧ ∃ en2 S2, body en1 S = .nx en2 S2 ∧ I xs en2 S2) : ∃ en2 S2, sFor mi g body en S = .nx en2 S2 ∧ I [] en2 S2 := by
  rw [a_sFor, hi]
  subst hd
  show ∃ en2 S2, forL chk g body (xs.map inj) en S1 = .nx en2 S2 ∧ I [] en2 S2
  refine forL_run inj I (fun r => ∃ en2 S2, r = .nx en2 S2 ∧ I [] en2 S2) hc (fun x xs en S h => ?_) (fun en S h => ⟨en, S, rfl, h⟩) xs en S1 h0
  obtain ⟨en1, h1, h2⟩ := hs x xs en S h
  exact ⟨en1, h1, .inl h2⟩
end Mi
namespace Mi
open PySem L2
theorem asInts_set : ∀ (xs : List Int) (j : Nat) (y : Int), (xs.map D.int).set j (.int y) = (xs.set j y).map D.int := fun xs j y => by rw [List.map_set]
theorem laug_ok {g : Int → Int → Int} {mo mi mv : EM} {en : En} {S : Sto} {i j : Nat} {xs : List Int} {y : Int} (ho : mo en S = .ok (.ref i) S) (hi : S[i]? = some (.lst (xs.map .int))) (hk : mi en S = .ok (.int (j : Int)) S) (hz : j < xs.length) (hv : mv en S = .ok (.int y) S) :
    sLaug g mo mi mv en S = .nx en (S.set i (.lst ((xs.set j (g (xs.getD j 0) y)).map .int))) := by
  unfold sLaug
  rw [ho]
  dsimp only [Rs.then]
  rw [hk]
  dsimp only
  rw [asL_ref hi]
  dsimp only
  have e1 : atI (xs.map D.int) (j : Int) = some (.int (xs.getD j 0)) := Mi.atI_nat (by simp [hz])
  rw [e1]
  dsimp only
  rw [if_pos (by omega), hv]
  dsimp only
  rw [lstAt_ref hi]
  dsimp only
  have e2 : ixN (xs.map D.int).length (j : Int) = some j := by
    unfold ixN
    rw [if_pos (by omega), if_pos (by simpa using hz)]
    simp
  rw [e2]
  dsimp only
  rw [asInts_set]
theorem lput_ok {mo mi mv : EM} {en : En} {S : Sto} {i j : Nat} {ds : List D} {v : D} (hv : mv en S = .ok v S) (ho : mo en S = .ok (.ref i) S) (hk : mi en S = .ok (.int (j : Int)) S) (hi : S[i]? = some (.lst ds)) (hz : j < ds.length) : sLput mo mi mv en S = .nx en (S.set i (.lst (ds.set j v))) := by
  rw [a_sLput, hv]
  dsimp only [Rs.then]
  rw [ho]
  dsimp only
  rw [hk]
  dsimp only
  rw [lstAt_ref hi]
  dsimp only
  have e2 : ixN ds.length (j : Int) = some j := by
    unfold ixN
    rw [if_pos (by omega), if_pos (by omega)]
    simp
  rw [e2]
end Mi
namespace Mi
theorem cons1_ok {a : EM} {en : En} {S : Sto} {x : D} (ha : a en S = .ok x S) : mCons a mNil en S = .ok [x] S := by
  rw [a_mCons, ha]
  rfl
theorem cons2_ok {a b : EM} {en : En} {S : Sto} {x y : D} (ha : a en S = .ok x S) (hb : b en S = .ok y S) : mCons a (mCons b mNil) en S = .ok [x, y] S := by
  rw [a_mCons, ha]
  dsimp only [Rs.bind]
  rw [cons1_ok hb]
theorem cons3_ok {a b c : EM} {en : En} {S : Sto} {x y z : D} (ha : a en S = .ok x S) (hb : b en S = .ok y S) (hc : c en S = .ok z S) : mCons a (mCons b (mCons c mNil)) en S = .ok [x, y, z] S := by
  rw [a_mCons, ha]
  dsimp only [Rs.bind]
  rw [cons2_ok hb hc]
theorem call_ok {m : FM} {dds ds : List D} {n : AM} {en : En} {S : Sto} {r : Rs D} (hn : n en S = .ok ds S) (h : m (ds ++ dds) S = r) : mCall m dds n en S = r := by
  rw [a_mCall, hn]
  exact h
end Mi
/-! Level 1 of law_k84_bills, printed by gen.py: each def by its mirror. -/
namespace Gk84
open PySem L2 Mi
def top (i : Nat) : Stmt := PySem.Challenge.pw_wirehall_k84_bills.main.body.getD i (.Pass ⟨0, 0, 0, 0⟩)
/-! _law_mixed -/
abbrev s__law_mixed : Stmt := top 38
abbrev N__law_mixed : List Str := ["_law_cell", "_law_k", "_law_number"]
theorem sc__law_mixed : FnScope ["_law_cell", "_law_k", "_law_number"] ["_law_cell", "_law_k"] (defScope s__law_mixed) := ⟨rfl, rfl, rfl, by decide +kernel, rfl, by decide +kernel, by decide +kernel⟩
def b__law_mixed : SM :=
  sSeq (sAsg (.nm 2) (mBin dMod (mBin dMulI (mBin dAdd (mVar 0) (mBin dMulI (mC (.int 7919)) (mVar 1))) (mC (.int 48271))) (mC (.int 2147483647))))
  (sRet (mBin dMod (mBin dMulI (mVar 2) (mBin dAdd (mBin dAdd (mVar 2) (mBin dMulI (mC (.int 2)) (mVar 1))) (mC (.int 1)))) (mC (.int 2147483629))))
def m__law_mixed : FM := trim (runB 2 3 b__law_mixed)

/-! _law_cell_at -/
abbrev s__law_cell_at : Stmt := top 39
abbrev N__law_cell_at : List Str := ["_law_script", "_law_k"]
theorem sc__law_cell_at : FnScope ["_law_script", "_law_k"] ["_law_script", "_law_k"] (defScope s__law_cell_at) := ⟨rfl, rfl, rfl, by decide +kernel, rfl, by decide +kernel, by decide +kernel⟩
def b__law_cell_at : SM :=
  sSeq (sIf (mTest (mBin dLt (mVar 1) (mOpN oLen (mCons (mVar 0) (mNil))))) (sRet (mCall m__law_mixed [] (mCons (mBin dIx (mVar 0) (mVar 1)) (mCons (mVar 1) (mNil))))) (sNil))
  (sRet (mC (.int 0)))
def m__law_cell_at : FM := trim (runB 2 2 b__law_cell_at)

/-! _law_figures -/
abbrev s__law_figures : Stmt := top 44
abbrev N__law_figures : List Str := ["_law_cell", "_law_most", "_law_k"]
theorem sc__law_figures : FnScope ["_law_cell", "_law_most", "_law_k"] ["_law_cell", "_law_most"] (defScope s__law_figures) := ⟨rfl, rfl, rfl, by decide +kernel, rfl, by decide +kernel, by decide +kernel⟩
def b__law_figures : SM :=
  sRet (mJoin (mC (.str "")) (mCons (mFrz (lComp (iRange1 (mCons (mBin dAdd (mC (.int 1)) (mBin dMod (mCall m__law_mixed [] (mCons (mVar 0) (mCons (mC (.int 229)) (mNil)))) (mVar 1))) (mNil))) (.nm 2) (mYes) (mBin dIx (mC (.str "0123")) (mBin dMod (mCall m__law_mixed [] (mCons (mVar 0) (mCons (mBin dAdd (mC (.int 230)) (mVar 2)) (mNil)))) (mC (.int 4)))) [2])) (mNil)))
def m__law_figures : FM := trim (runB 2 3 b__law_figures)

/-! _law_prices -/
abbrev s__law_prices : Stmt := top 43
abbrev N__law_prices : List Str := ["_law_cell", "_law_most", "_law_k"]
theorem sc__law_prices : FnScope ["_law_cell", "_law_most", "_law_k"] ["_law_cell"] (defScope s__law_prices) := ⟨rfl, rfl, rfl, by decide +kernel, rfl, by decide +kernel, by decide +kernel⟩
def b__law_prices : SM :=
  sSeq (sAsg (.nm 1) (mBin dIx (mFrz (lDis (mCons (mC (.int 10)) (mCons (mC (.int 1000)) (mCons (mBin dPow (mC (.int 10)) (mC (.int 9))) (mNil)))))) (mBin dMod (mCall m__law_mixed [] (mCons (mVar 0) (mCons (mC (.int 160)) (mNil)))) (mC (.int 3)))))
  (sRet (mFrz (lComp (iRange1 (mCons (mC (.int 10)) (mNil))) (.nm 2) (mYes) (mOpN oMin2 (mCons (mVar 1) (mCons (mBin dMod (mCall m__law_mixed [] (mCons (mVar 0) (mCons (mBin dAdd (mC (.int 161)) (mVar 2)) (mNil)))) (mBin dAdd (mVar 1) (mBin dFDiv (mVar 1) (mC (.int 4))))) (mNil)))) [2])))
def m__law_prices : FM := trim (runB 1 3 b__law_prices)

/-! _law_price_rows -/
abbrev s__law_price_rows : Stmt := top 45
abbrev N__law_price_rows : List Str := ["_law_cell", "_law_rows_here", "_law_k", "_law_figures_here", "_law_row"]
theorem sc__law_price_rows : FnScope ["_law_cell", "_law_rows_here", "_law_k", "_law_figures_here", "_law_row"] ["_law_cell"] (defScope s__law_price_rows) := ⟨rfl, rfl, rfl, by decide +kernel, rfl, by decide +kernel, by decide +kernel⟩
def b__law_price_rows : SM :=
  sSeq (sAsg (.nm 1) (mNew (lDis (mNil))))
  (sSeq (sFor (iRange1 (mCons (mBin dAdd (mC (.int 1)) (mBin dMod (mCall m__law_mixed [] (mCons (mVar 0) (mCons (mC (.int 430)) (mNil)))) (mC (.int 6)))) (mNil))) (.nm 2) (sSeq (sAsg (.nm 3) (mCall m__law_figures [] (mCons (mCall m__law_mixed [] (mCons (mVar 0) (mCons (mBin dAdd (mC (.int 431)) (mVar 2)) (mNil)))) (mCons (mC (.int 3)) (mNil)))))
  (sIf (mTest (mIn (fun b => !b) (mVar 3) (mFrz (lComp (iSeq (mVar 1)) (.nm 4) (mYes) (mBin dIx (mVar 4) (mC (.int 0))) [4])))) (sExp (mAppend (mVar 1) (mCons (mTup (mCons (mVar 3) (mCons (mCall m__law_prices [] (mCons (mCall m__law_mixed [] (mCons (mVar 0) (mCons (mBin dAdd (mC (.int 441)) (mVar 2)) (mNil)))) (mNil))) (mNil)))) (mNil)))) (sNil))))
  (sRet (mFreeze (mVar 1))))
def m__law_price_rows : FM := trim (runB 1 5 b__law_price_rows)

/-! is_figures -/
abbrev s_is_figures : Stmt := top 12
abbrev N_is_figures : List Str := ["thing", "sign"]
theorem sc_is_figures : FnScope ["thing", "sign"] ["thing"] (defScope s_is_figures) := ⟨rfl, rfl, rfl, by decide +kernel, rfl, by decide +kernel, by decide +kernel⟩
def b_is_figures : SM :=
  sSeq (sIf (mOr (mNot (mTest (mIsi [.str] (mVar 0)))) (mNot (mTest (mChain dLe dLe (mC (.int 1)) (mOpN oLen (mCons (mVar 0) (mNil))) (mC (.int 15)))))) (sRet (mC (.bl false))) (sNil))
  (sRet (mOpN oAll (mCons (mFrz (lComp (iSeq (mVar 0)) (.nm 1) (mYes) (mIn (fun b => b) (mVar 1) (mC (.str "0123456789"))) [1])) (mNil))))
def m_is_figures : FM := trim (runB 1 2 b_is_figures)

/-! Plan.__init__ -/
abbrev s_Plan_init : Stmt := inClass (top 34) 0
abbrev N_Plan_init : List Str := ["self", "rows", "beginning", "thing", "size"]
theorem sc_Plan_init : FnScope ["self", "rows", "beginning", "thing", "size"] ["self", "rows"] (defScope s_Plan_init) := ⟨rfl, rfl, rfl, by decide +kernel, rfl, by decide +kernel, by decide +kernel⟩
def b_Plan_init : SM :=
  sSeq (sIf (mTest (mBin dGt (mOpN oLen (mCons (mVar 1) (mNil))) (mC (.int 200)))) (sRaise 2) (sNil))
  (sSeq (sFldS [8] 5 (mVar 0) (mDct))
  (sSeq (sFldS [8] 6 (mVar 0) (mDct))
  (sFor (iSeq (mVar 1)) (.tp [2, 3]) (sSeq (sIf (mNot (mTest (mCall m_is_figures [] (mCons (mVar 2) (mNil))))) (sRaise 1) (sNil))
  (sSeq (sIf (mTest (mIn (fun b => b) (mVar 2) (mFld 5 (mVar 0)))) (sBad) (sNil))
  (sSeq (sDput (mFld 5 (mVar 0)) (mVar 2) (mVar 3))
  (sFor (iRange1 (mCons (mOpN oLen (mCons (mVar 2) (mNil))) (mNil))) (.nm 4) (sDput (mFld 6 (mVar 0)) (mSl (mVar 2) (mNoPart) (mPart (mVar 4))) (mC (.bl true))))))))))
def m_Plan_init : FM := runB 2 5 b_Plan_init

/-! _law_low -/
abbrev s__law_low : Stmt := top 42
abbrev N__law_low : List Str := ["_law_cell", "_law_days", "_law_day"]
theorem sc__law_low : FnScope ["_law_cell", "_law_days", "_law_day"] ["_law_cell"] (defScope s__law_low) := ⟨rfl, rfl, rfl, by decide +kernel, rfl, by decide +kernel, by decide +kernel⟩
def b__law_low : SM :=
  sSeq (sAsg (.nm 1) (mFrz (lComp (iRange1 (mCons (mC (.int 7)) (mNil))) (.nm 2) (mTest (mBin dEq (mBin dMod (mCall m__law_mixed [] (mCons (mVar 0) (mCons (mBin dAdd (mC (.int 120)) (mVar 2)) (mNil)))) (mC (.int 3))) (mC (.int 0)))) (mVar 2) [2])))
  (sRet (mBin dIx (mFrz (lDis (mCons (mC .non) (mCons (mFrz (lDis (mNil))) (mCons (mVar 1) (mCons (mFrz (lRev (mVar 1))) (mNil))))))) (mBin dMod (mCall m__law_mixed [] (mCons (mVar 0) (mCons (mC (.int 12)) (mNil)))) (mC (.int 4)))))
def m__law_low : FM := trim (runB 1 3 b__law_low)

/-! _law_rows -/
abbrev s__law_rows : Stmt := top 41
abbrev N__law_rows : List Str := ["_law_cell", "_law_begins", "_law_k", "_law_begin"]
theorem sc__law_rows : FnScope ["_law_cell", "_law_begins", "_law_k", "_law_begin"] ["_law_cell"] (defScope s__law_rows) := ⟨rfl, rfl, rfl, by decide +kernel, rfl, by decide +kernel, by decide +kernel⟩
def b__law_rows : SM :=
  sSeq (sAsg (.nm 1) (mNew (lDis (mCons (mC (.int 0)) (mNil)))))
  (sSeq (sFor (iRange1 (mCons (mBin dIx (mFrz (lDis (mCons (mC (.int 0)) (mCons (mC (.int 1)) (mCons (mC (.int 2)) (mCons (mC (.int 4)) (mCons (mC (.int 23)) (mNil)))))))) (mBin dMod (mCall m__law_mixed [] (mCons (mVar 0) (mCons (mC (.int 11)) (mNil)))) (mC (.int 5)))) (mNil))) (.nm 2) (sSeq (sAsg (.nm 3) (mBin dAdd (mC (.int 1)) (mBin dMod (mCall m__law_mixed [] (mCons (mVar 0) (mCons (mBin dAdd (mC (.int 20)) (mVar 2)) (mNil)))) (mC (.int 86399)))))
  (sSeq (sIf (mTest (mBin dEq (mBin dMod (mCall m__law_mixed [] (mCons (mVar 0) (mCons (mBin dAdd (mC (.int 50)) (mVar 2)) (mNil)))) (mC (.int 5))) (mC (.int 0)))) (sAsg (.nm 3) (mBin dIx (mFrz (lDis (mCons (mC (.int 1)) (mCons (mC (.int 86399)) (mCons (mC (.int 3600)) (mCons (mC (.int 43200)) (mCons (mC (.int 59)) (mNil)))))))) (mBin dMod (mBin dFDiv (mCall m__law_mixed [] (mCons (mVar 0) (mCons (mBin dAdd (mC (.int 50)) (mVar 2)) (mNil)))) (mC (.int 5))) (mC (.int 5))))) (sNil))
  (sIf (mTest (mIn (fun b => !b) (mVar 3) (mVar 1))) (sExp (mAppend (mVar 1) (mCons (mVar 3) (mNil)))) (sNil)))))
  (sRet (mFrz (lComp (iEnumD (mCons (mFrz (lSortI (mCons (mVar 1) (mNil)))) (mNil))) (.tp [2, 3]) (mYes) (mTup (mCons (mVar 3) (mCons (mBin dMod (mCall m__law_mixed [] (mCons (mVar 0) (mCons (mBin dAdd (mC (.int 80)) (mVar 2)) (mNil)))) (mC (.int 10))) (mNil)))) [2, 3]))))
def m__law_rows : FM := trim (runB 1 4 b__law_rows)

/-! is_between -/
abbrev s_is_between : Stmt := top 13
abbrev N_is_between : List Str := ["thing", "least", "most"]
theorem sc_is_between : FnScope ["thing", "least", "most"] ["thing", "least", "most"] (defScope s_is_between) := ⟨rfl, rfl, rfl, by decide +kernel, rfl, by decide +kernel, by decide +kernel⟩
def b_is_between : SM :=
  sRet (mAndV (mIsi [.int] (mVar 0)) (mAndV (mNotV (mIsi [.bl] (mVar 0))) (mChain dLe dLe (mVar 1) (mVar 0) (mVar 2))))
def m_is_between : FM := trim (runB 3 3 b_is_between)

/-! are_days -/
abbrev s_are_days : Stmt := top 28
abbrev N_are_days : List Str := ["days", "day"]
theorem sc_are_days : FnScope ["days", "day"] ["days"] (defScope s_are_days) := ⟨rfl, rfl, rfl, by decide +kernel, rfl, by decide +kernel, by decide +kernel⟩
def b_are_days : SM :=
  sSeq (sIf (mOr (mNot (mTest (mIsi [.lst] (mVar 0)))) (mNot (mTest (mOpN oAll (mCons (mFrz (lComp (iSeq (mVar 0)) (.nm 1) (mYes) (mCall m_is_between [] (mCons (mVar 1) (mCons (mC (.int 0)) (mCons (mBin dSub (mC (.int 7)) (mC (.int 1))) (mNil))))) [1])) (mNil)))))) (sRet (mC (.bl false))) (sNil))
  (sRet (mBin dEq (mLenSet (mCons (mVar 0) (mNil))) (mOpN oLen (mCons (mVar 0) (mNil)))))
def m_are_days : FM := trim (runB 1 2 b_are_days)

/-! is_row -/
abbrev s_is_row : Stmt := top 26
abbrev N_is_row : List Str := ["row"]
theorem sc_is_row : FnScope ["row"] ["row"] (defScope s_is_row) := ⟨rfl, rfl, rfl, by decide +kernel, rfl, by decide +kernel, by decide +kernel⟩
def b_is_row : SM :=
  sSeq (sIf (mOr (mNot (mTest (mIsi [.tup] (mVar 0)))) (mTest (mBin dNe (mOpN oLen (mCons (mVar 0) (mNil))) (mC (.int 2))))) (sRet (mC (.bl false))) (sNil))
  (sRet (mAndV (mCall m_is_between [] (mCons (mBin dIx (mVar 0) (mC (.int 0))) (mCons (mC (.int 0)) (mCons (mBin dSub (mC (.int 86400)) (mC (.int 1))) (mNil))))) (mCall m_is_between [] (mCons (mBin dIx (mVar 0) (mC (.int 1))) (mCons (mC (.int 0)) (mCons (mBin dSub (mC (.int 10)) (mC (.int 1))) (mNil)))))))
def m_is_row : FM := trim (runB 1 1 b_is_row)

/-! are_rows -/
abbrev s_are_rows : Stmt := top 27
abbrev N_are_rows : List Str := ["rows", "row", "one", "other"]
theorem sc_are_rows : FnScope ["rows", "row", "one", "other"] ["rows"] (defScope s_are_rows) := ⟨rfl, rfl, rfl, by decide +kernel, rfl, by decide +kernel, by decide +kernel⟩
def b_are_rows : SM :=
  sSeq (sIf (mOr (mNot (mTest (mIsi [.lst] (mVar 0)))) (mOr (mNot (mTest (mChain dLe dLe (mC (.int 1)) (mOpN oLen (mCons (mVar 0) (mNil))) (mC (.int 24))))) (mNot (mTest (mOpN oAll (mCons (mFrz (lComp (iSeq (mVar 0)) (.nm 1) (mYes) (mCall m_is_row [] (mCons (mVar 1) (mNil))) [1])) (mNil))))))) (sRet (mC (.bl false))) (sNil))
  (sRet (mAndV (mBin dEq (mBin dIx (mBin dIx (mVar 0) (mC (.int 0))) (mC (.int 0))) (mC (.int 0))) (mOpN oAll (mCons (mFrz (lComp (iZipD (mCons (mVar 0) (mCons (mSl (mVar 0) (mPart (mC (.int 1))) (mNoPart)) (mNil)))) (.tp [2, 3]) (mYes) (mBin dLt (mBin dIx (mVar 2) (mC (.int 0))) (mBin dIx (mVar 3) (mC (.int 0)))) [2, 3])) (mNil)))))
def m_are_rows : FM := trim (runB 1 4 b_are_rows)

/-! Bands.__init__ -/
abbrev s_Bands_init : Stmt := inClass (top 31) 0
abbrev N_Bands_init : List Str := ["self", "rows", "low", "begin", "band"]
theorem sc_Bands_init : FnScope ["self", "rows", "low", "begin", "band"] ["self", "rows", "low"] (defScope s_Bands_init) := ⟨rfl, rfl, rfl, by decide +kernel, rfl, by decide +kernel, by decide +kernel⟩
def b_Bands_init : SM :=
  sSeq (sIf (mTest (mBin dIsN (mVar 2) (mC .non))) (sAsg (.nm 2) (mFrz (lDis (mNil)))) (sNil))
  (sSeq (sIf (mOr (mNot (mTest (mCall m_are_rows [] (mCons (mVar 1) (mNil))))) (mNot (mTest (mCall m_are_days [] (mCons (mVar 2) (mNil)))))) (sRaise 4) (sNil))
  (sSeq (sFldS [7] 1 (mVar 0) (mFrz (lComp (iSeq (mVar 1)) (.tp [3, 4]) (mYes) (mVar 3) [3, 4])))
  (sSeq (sFldS [7] 2 (mVar 0) (mBin dAdd (mSl (mFld 1 (mVar 0)) (mPart (mC (.int 1))) (mNoPart)) (mFrz (lDis (mCons (mC (.int 86400)) (mNil))))))
  (sSeq (sFldS [7] 3 (mVar 0) (mFrz (lComp (iSeq (mVar 1)) (.tp [3, 4]) (mYes) (mVar 4) [3, 4])))
  (sFldS [7] 4 (mVar 0) (mFrz (lList (mCons (mVar 2) (mNil)))))))))
def m_Bands_init : FM := runB 3 5 b_Bands_init

/-! Plan.rows -/
abbrev s_Plan_rows : Stmt := inClass (top 34) 1
abbrev N_Plan_rows : List Str := ["self"]
theorem sc_Plan_rows : FnScope ["self"] ["self"] (defScope s_Plan_rows) := ⟨rfl, rfl, rfl, by decide +kernel, rfl, by decide +kernel, by decide +kernel⟩
def b_Plan_rows : SM :=
  sRet (mFrz (lItems (mFld 5 (mVar 0))))
def m_Plan_rows : FM := trim (runB 1 1 b_Plan_rows)

/-! are_prices -/
abbrev s_are_prices : Stmt := top 29
abbrev N_are_prices : List Str := ["prices", "price"]
theorem sc_are_prices : FnScope ["prices", "price"] ["prices"] (defScope s_are_prices) := ⟨rfl, rfl, rfl, by decide +kernel, rfl, by decide +kernel, by decide +kernel⟩
def b_are_prices : SM :=
  sSeq (sIf (mOr (mNot (mTest (mIsi [.lst] (mVar 0)))) (mTest (mBin dNe (mOpN oLen (mCons (mVar 0) (mNil))) (mC (.int 10))))) (sRet (mC (.bl false))) (sNil))
  (sRet (mOpN oAll (mCons (mFrz (lComp (iSeq (mVar 0)) (.nm 1) (mYes) (mCall m_is_between [] (mCons (mVar 1) (mCons (mC (.int 0)) (mCons (mC (.int 1000000000)) (mNil))))) [1])) (mNil))))
def m_are_prices : FM := trim (runB 1 2 b_are_prices)

/-! need_prices -/
abbrev s_need_prices : Stmt := top 30
abbrev N_need_prices : List Str := ["prices"]
theorem sc_need_prices : FnScope ["prices"] ["prices"] (defScope s_need_prices) := ⟨rfl, rfl, rfl, by decide +kernel, rfl, by decide +kernel, by decide +kernel⟩
def b_need_prices : SM :=
  sIf (mNot (mTest (mCall m_are_prices [] (mCons (mVar 0) (mNil))))) (sRaise 5) (sNil)
def m_need_prices : FM := trim (runB 1 1 b_need_prices)

/-! Tariff.__init__ -/
abbrev s_Tariff_init : Stmt := inClass (top 36) 0
abbrev N_Tariff_init : List Str := ["self", "bands", "plan", "rows", "beginning", "prices"]
theorem sc_Tariff_init : FnScope ["self", "bands", "plan", "rows", "beginning", "prices"] ["self", "bands", "plan"] (defScope s_Tariff_init) := ⟨rfl, rfl, rfl, by decide +kernel, rfl, by decide +kernel, by decide +kernel⟩
def b_Tariff_init : SM :=
  sSeq (sAsg (.nm 3) (mNew (lDis (mNil))))
  (sSeq (sFor (iSeq (mMeth [(8, m_Plan_rows)] [] (mVar 2) mNil)) (.tp [4, 5]) (sSeq (sExp (mCall m_need_prices [] (mCons (mVar 5) (mNil))))
  (sExp (mAppend (mVar 3) (mCons (mTup (mCons (mVar 4) (mCons (mFrz (lList (mCons (mVar 5) (mNil)))) (mNil)))) (mNil))))))
  (sSeq (sFldS [9] 7 (mVar 0) (mVar 1))
  (sFldS [9] 8 (mVar 0) (mTrim (mFreeze (mMake 8 m_Plan_init [] (mCons (mVar 3) (mNil))))))))
def m_Tariff_init : FM := runB 3 6 b_Tariff_init

/-! _law_time -/
abbrev s__law_time : Stmt := top 40
abbrev N__law_time : List Str := ["_law_cell", "_law_far", "_law_midnight"]
theorem sc__law_time : FnScope ["_law_cell", "_law_far", "_law_midnight"] ["_law_cell"] (defScope s__law_time) := ⟨rfl, rfl, rfl, by decide +kernel, rfl, by decide +kernel, by decide +kernel⟩
def b__law_time : SM :=
  sSeq (sAsg (.nm 1) (mBin dAdd (mBin dMulI (mCall m__law_mixed [] (mCons (mVar 0) (mCons (mC (.int 2)) (mNil)))) (mC (.int 2147483629))) (mCall m__law_mixed [] (mCons (mVar 0) (mCons (mC (.int 3)) (mNil))))))
  (sSeq (sAsg (.nm 2) (mOpN oMax2 (mCons (mC (.int 0)) (mCons (mBin dSub (mBin dAdd (mBin dMulI (mBin dMod (mVar 1) (mC (.int 11574074074))) (mC (.int 86400))) (mBin dMod (mCall m__law_mixed [] (mCons (mVar 0) (mCons (mC (.int 4)) (mNil)))) (mC (.int 3)))) (mC (.int 1))) (mNil)))))
  (sRet (mBin dIx (mFrz (lDis (mCons (mBin dMod (mVar 1) (mC (.int 864000))) (mCons (mVar 2) (mCons (mBin dMod (mVar 1) (mBin dAdd (mBin dPow (mC (.int 10)) (mC (.int 15))) (mC (.int 1)))) (mCons (mBin dSub (mBin dPow (mC (.int 10)) (mC (.int 15))) (mBin dMod (mVar 1) (mC (.int 90000)))) (mNil))))))) (mBin dMod (mCall m__law_mixed [] (mCons (mVar 0) (mCons (mC (.int 1)) (mNil)))) (mC (.int 4))))))
def m__law_time : FM := trim (runB 1 3 b__law_time)

/-! _law_account -/
abbrev s__law_account : Stmt := top 46
abbrev N__law_account : List Str := ["_law_cell", "_law_begin", "_law_end"]
theorem sc__law_account : FnScope ["_law_cell", "_law_begin", "_law_end"] ["_law_cell"] (defScope s__law_account) := ⟨rfl, rfl, rfl, by decide +kernel, rfl, by decide +kernel, by decide +kernel⟩
def b__law_account : SM :=
  sSeq (sAsg (.tp [1, 2]) (mFrz (lSortI (mCons (mFrz (lDis (mCons (mCall m__law_time [] (mCons (mVar 0) (mNil))) (mCons (mCall m__law_time [] (mCons (mBin dAdd (mVar 0) (mC (.int 79))) (mNil))) (mNil))))) (mNil)))))
  (sSeq (sIf (mTest (mBin dEq (mBin dMod (mCall m__law_mixed [] (mCons (mVar 0) (mCons (mC (.int 451)) (mNil)))) (mC (.int 3))) (mC (.int 0)))) (sAsg (.nm 2) (mOpN oMin2 (mCons (mBin dPow (mC (.int 10)) (mC (.int 15))) (mCons (mBin dAdd (mVar 1) (mBin dMod (mCall m__law_mixed [] (mCons (mVar 0) (mCons (mC (.int 452)) (mNil)))) (mC (.int 500)))) (mNil))))) (sNil))
  (sRet (mTup (mCons (mBin dMulI (mBin dMod (mCall m__law_mixed [] (mCons (mVar 0) (mCons (mC (.int 453)) (mNil)))) (mC (.int 5))) (mC (.int 13))) (mCons (mCall m__law_figures [] (mCons (mCall m__law_mixed [] (mCons (mVar 0) (mCons (mC (.int 454)) (mNil)))) (mCons (mC (.int 5)) (mNil)))) (mCons (mVar 1) (mCons (mVar 2) (mNil))))))))
def m__law_account : FM := trim (runB 1 3 b__law_account)

/-! Plan.longest -/
abbrev s_Plan_longest : Stmt := inClass (top 34) 2
abbrev N_Plan_longest : List Str := ["self", "number", "size"]
theorem sc_Plan_longest : FnScope ["self", "number", "size"] ["self", "number"] (defScope s_Plan_longest) := ⟨rfl, rfl, rfl, by decide +kernel, rfl, by decide +kernel, by decide +kernel⟩
def b_Plan_longest : SM :=
  sSeq (sFor (iRangeD (mCons (mOpN oLen (mCons (mVar 1) (mNil))) (mCons (mC (.int 0)) (mCons (mUn dNeg (mC (.int 1))) (mNil))))) (.nm 2) (sIf (mTest (mIn (fun b => b) (mSl (mVar 1) (mNoPart) (mPart (mVar 2))) (mFld 5 (mVar 0)))) (sRet (mSl (mVar 1) (mNoPart) (mPart (mVar 2)))) (sNil)))
  (sRet (mC .non))
def m_Plan_longest : FM := trim (runB 2 3 b_Plan_longest)

/-! Plan.found -/
abbrev s_Plan_found : Stmt := inClass (top 34) 3
abbrev N_Plan_found : List Str := ["self", "number", "beginning"]
theorem sc_Plan_found : FnScope ["self", "number", "beginning"] ["self", "number"] (defScope s_Plan_found) := ⟨rfl, rfl, rfl, by decide +kernel, rfl, by decide +kernel, by decide +kernel⟩
def b_Plan_found : SM :=
  sSeq (sAsg (.nm 2) (mMeth [(8, m_Plan_longest)] [] (mVar 0) (mCons (mVar 1) (mNil))))
  (sSeq (sIf (mTest (mBin dIsN (mVar 2) (mC .non))) (sRet (mC .non)) (sNil))
  (sRet (mTup (mCons (mVar 2) (mCons (mBin dIx (mFld 5 (mVar 0)) (mVar 2)) (mCons (mSl (mVar 1) (mPart (mOpN oLen (mCons (mVar 2) (mNil)))) (mNoPart)) (mNil)))))))
def m_Plan_found : FM := trim (runB 2 3 b_Plan_found)

/-! Tariff.prices_of -/
abbrev s_Tariff_prices_of : Stmt := inClass (top 36) 1
abbrev N_Tariff_prices_of : List Str := ["self", "number", "found"]
theorem sc_Tariff_prices_of : FnScope ["self", "number", "found"] ["self", "number"] (defScope s_Tariff_prices_of) := ⟨rfl, rfl, rfl, by decide +kernel, rfl, by decide +kernel, by decide +kernel⟩
def b_Tariff_prices_of : SM :=
  sSeq (sAsg (.nm 2) (mMeth [(8, m_Plan_found)] [] (mFld 8 (mVar 0)) (mCons (mVar 1) (mNil))))
  (sSeq (sIf (mTest (mBin dIsN (mVar 2) (mC .non))) (sRet (mC .non)) (sNil))
  (sRet (mBin dIx (mVar 2) (mC (.int 1)))))
def m_Tariff_prices_of : FM := trim (runB 2 3 b_Tariff_prices_of)

/-! need_time -/
abbrev s_need_time : Stmt := top 17
abbrev N_need_time : List Str := ["time"]
theorem sc_need_time : FnScope ["time"] ["time"] (defScope s_need_time) := ⟨rfl, rfl, rfl, by decide +kernel, rfl, by decide +kernel, by decide +kernel⟩
def b_need_time : SM :=
  sIf (mNot (mTest (mCall m_is_between [] (mCons (mVar 0) (mCons (mC (.int 0)) (mCons (mC (.int 1000000000000000)) (mNil))))))) (sRaise 3) (sNil)
def m_need_time : FM := trim (runB 1 1 b_need_time)

/-! Bands.of_day -/
abbrev s_Bands_of_day : Stmt := inClass (top 31) 2
abbrev N_Bands_of_day : List Str := ["self", "weekday", "second", "found", "k", "band"]
theorem sc_Bands_of_day : FnScope ["self", "weekday", "second", "found", "k", "band"] ["self", "weekday", "second"] (defScope s_Bands_of_day) := ⟨rfl, rfl, rfl, by decide +kernel, rfl, by decide +kernel, by decide +kernel⟩
def b_Bands_of_day : SM :=
  sSeq (sAsg (.nm 3) (mNew (lRep (lDis (mCons (mC (.int 0)) (mNil))) (mC (.int 10)))))
  (sSeq (sIf (mTest (mIn (fun b => b) (mVar 1) (mFld 4 (mVar 0)))) (sSeq (sLput (mVar 3) (mC (.int 0)) (mVar 2))
  (sRet (mFreeze (mVar 3)))) (sNil))
  (sSeq (sFor (iEnumD (mCons (mFld 3 (mVar 0)) (mNil))) (.tp [4, 5]) (sLaug (fun i j => i + j) (mVar 3) (mVar 5) (mOpN oMax2 (mCons (mC (.int 0)) (mCons (mBin dSub (mOpN oMin2 (mCons (mVar 2) (mCons (mBin dIx (mFld 2 (mVar 0)) (mVar 4)) (mNil)))) (mBin dIx (mFld 1 (mVar 0)) (mVar 4))) (mNil))))))
  (sRet (mFreeze (mVar 3)))))
def m_Bands_of_day : FM := trim (runB 3 6 b_Bands_of_day)

/-! Bands.ahead_of -/
abbrev s_Bands_ahead_of : Stmt := inClass (top 31) 3
abbrev N_Bands_ahead_of : List Str := ["self", "time", "day", "second", "weeks", "left", "found", "weekday", "days", "one", "other"]
theorem sc_Bands_ahead_of : FnScope ["self", "time", "day", "second", "weeks", "left", "found", "weekday", "days", "one", "other"] ["self", "time"] (defScope s_Bands_ahead_of) := ⟨rfl, rfl, rfl, by decide +kernel, rfl, by decide +kernel, by decide +kernel⟩
def b_Bands_ahead_of : SM :=
  sSeq (sAsg (.tp [2, 3]) (mOpN oDivmod (mCons (mVar 1) (mCons (mC (.int 86400)) (mNil)))))
  (sSeq (sAsg (.tp [4, 5]) (mOpN oDivmod (mCons (mVar 2) (mCons (mC (.int 7)) (mNil)))))
  (sSeq (sAsg (.nm 6) (mMeth [(7, m_Bands_of_day)] [] (mVar 0) (mCons (mVar 5) (mCons (mVar 3) (mNil)))))
  (sSeq (sFor (iRange1 (mCons (mC (.int 7)) (mNil))) (.nm 7) (sSeq (sAsg (.nm 8) (mBin dAdd (mVar 4) (mOpN oInt (mCons (mBin dLt (mVar 7) (mVar 5)) (mNil)))))
  (sAsg (.nm 6) (mFrz (lComp (iZipD (mCons (mVar 6) (mCons (mMeth [(7, m_Bands_of_day)] [] (mVar 0) (mCons (mVar 7) (mCons (mC (.int 86400)) (mNil)))) (mNil)))) (.tp [9, 10]) (mYes) (mBin dAdd (mVar 9) (mBin dMulI (mVar 8) (mVar 10))) [9, 10])))))
  (sRet (mVar 6)))))
def m_Bands_ahead_of : FM := trim (runB 2 11 b_Bands_ahead_of)

/-! Bands.seconds -/
abbrev s_Bands_seconds : Stmt := inClass (top 31) 4
abbrev N_Bands_seconds : List Str := ["self", "begin", "end", "one", "other"]
theorem sc_Bands_seconds : FnScope ["self", "begin", "end", "one", "other"] ["self", "begin", "end"] (defScope s_Bands_seconds) := ⟨rfl, rfl, rfl, by decide +kernel, rfl, by decide +kernel, by decide +kernel⟩
def b_Bands_seconds : SM :=
  sSeq (sExp (mCall m_need_time [] (mCons (mVar 1) (mNil))))
  (sSeq (sExp (mCall m_need_time [] (mCons (mVar 2) (mNil))))
  (sSeq (sIf (mTest (mBin dLt (mVar 2) (mVar 1))) (sRaise 3) (sNil))
  (sRet (mFrz (lComp (iZipD (mCons (mMeth [(7, m_Bands_ahead_of)] [] (mVar 0) (mCons (mVar 2) (mNil))) (mCons (mMeth [(7, m_Bands_ahead_of)] [] (mVar 0) (mCons (mVar 1) (mNil))) (mNil)))) (.tp [3, 4]) (mYes) (mBin dSub (mVar 3) (mVar 4)) [3, 4])))))
def m_Bands_seconds : FM := trim (runB 3 5 b_Bands_seconds)

/-! Bands.cost -/
abbrev s_Bands_cost : Stmt := inClass (top 31) 5
abbrev N_Bands_cost : List Str := ["self", "begin", "end", "prices", "many", "price"]
theorem sc_Bands_cost : FnScope ["self", "begin", "end", "prices", "many", "price"] ["self", "begin", "end", "prices"] (defScope s_Bands_cost) := ⟨rfl, rfl, rfl, by decide +kernel, rfl, by decide +kernel, by decide +kernel⟩
def b_Bands_cost : SM :=
  sSeq (sExp (mCall m_need_prices [] (mCons (mVar 3) (mNil))))
  (sRet (mOpN oSum (mCons (mFrz (lComp (iZipD (mCons (mMeth [(7, m_Bands_seconds)] [] (mVar 0) (mCons (mVar 1) (mCons (mVar 2) (mNil)))) (mCons (mVar 3) (mNil)))) (.tp [4, 5]) (mYes) (mBin dMulI (mVar 4) (mVar 5)) [4, 5])) (mNil))))
def m_Bands_cost : FM := trim (runB 4 6 b_Bands_cost)

/-! Tariff.price -/
abbrev s_Tariff_price : Stmt := inClass (top 36) 2
abbrev N_Tariff_price : List Str := ["self", "account", "payer", "number", "begin", "end", "prices"]
theorem sc_Tariff_price : FnScope ["self", "account", "payer", "number", "begin", "end", "prices"] ["self", "account"] (defScope s_Tariff_price) := ⟨rfl, rfl, rfl, by decide +kernel, rfl, by decide +kernel, by decide +kernel⟩
def b_Tariff_price : SM :=
  sSeq (sAsg (.tp [2, 3, 4, 5]) (mVar 1))
  (sSeq (sAsg (.nm 6) (mMeth [(9, m_Tariff_prices_of)] [] (mVar 0) (mCons (mVar 3) (mNil))))
  (sSeq (sIf (mTest (mBin dIsN (mVar 6) (mC .non))) (sRet (mC (.int 0))) (sNil))
  (sRet (mMeth [(7, m_Bands_cost)] [] (mFld 7 (mVar 0)) (mCons (mVar 4) (mCons (mVar 5) (mCons (mVar 6) (mNil))))))))
def m_Tariff_price : FM := trim (runB 2 7 b_Tariff_price)

/-! bill -/
abbrev s_bill : Stmt := top 19
abbrev N_bill : List Str := ["tariff", "accounts", "payer", "rows", "account", "cost"]
theorem sc_bill : FnScope ["tariff", "accounts", "payer", "rows", "account", "cost"] ["tariff", "accounts", "payer"] (defScope s_bill) := ⟨rfl, rfl, rfl, by decide +kernel, rfl, by decide +kernel, by decide +kernel⟩
def b_bill : SM :=
  sSeq (sAsg (.nm 3) (mNew (lComp (iSeq (mVar 1)) (.nm 4) (mTest (mBin dEq (mBin dIx (mVar 4) (mC (.int 0))) (mVar 2))) (mTup (mCons (mVar 4) (mCons (mMeth [(9, m_Tariff_price)] [] (mVar 0) (mCons (mVar 4) (mNil))) (mNil)))) [4])))
  (sRet (mTup (mCons (mVar 3) (mCons (mOpN oSum (mCons (mFrz (lComp (iSeq (mVar 3)) (.tp [4, 5]) (mYes) (mVar 5) [4, 5])) (mNil))) (mNil)))))
def m_bill : FM := trim (runB 3 6 b_bill)

/-! pays -/
abbrev s_pays : Stmt := top 20
abbrev N_pays : List Str := ["tariff", "accounts", "found", "payer", "account"]
theorem sc_pays : FnScope ["tariff", "accounts", "found", "payer", "account"] ["tariff", "accounts"] (defScope s_pays) := ⟨rfl, rfl, rfl, by decide +kernel, rfl, by decide +kernel, by decide +kernel⟩
def b_pays : SM :=
  sSeq (sAsg (.nm 2) (mDct))
  (sSeq (sFor (iSeq (mFrz (lSortSet (mCons (mFrz (lComp (iSeq (mVar 1)) (.nm 4) (mYes) (mBin dIx (mVar 4) (mC (.int 0))) [4])) (mNil))))) (.nm 3) (sDput (mVar 2) (mVar 3) (mBin dIx (mCall m_bill [] (mCons (mVar 0) (mCons (mVar 1) (mCons (mVar 3) (mNil))))) (mC (.int 1)))))
  (sRet (mVar 2)))
def m_pays : FM := trim (runB 2 5 b_pays)

/-! _law_bill -/
abbrev s__law_bill : Stmt := top 48
abbrev N__law_bill : List Str := ["_law_tariff", "_law_accounts", "_law_payer", "_law_rows_here", "_law_total", "_law_account_here"]
theorem sc__law_bill : FnScope ["_law_tariff", "_law_accounts", "_law_payer", "_law_rows_here", "_law_total", "_law_account_here"] ["_law_tariff", "_law_accounts", "_law_payer"] (defScope s__law_bill) := ⟨rfl, rfl, rfl, by decide +kernel, rfl, by decide +kernel, by decide +kernel⟩
def b__law_bill : SM :=
  sSeq (sAsg (.nm 3) (mNew (lDis (mNil))))
  (sSeq (sAsg (.nm 4) (mC (.int 0)))
  (sSeq (sFor (iSeq (mVar 1)) (.nm 5) (sIf (mTest (mBin dEq (mBin dIx (mVar 5) (mC (.int 0))) (mVar 2))) (sSeq (sExp (mAppend (mVar 3) (mCons (mTup (mCons (mVar 5) (mCons (mMeth [(9, m_Tariff_price)] [] (mVar 0) (mCons (mVar 5) (mNil))) (mNil)))) (mNil))))
  (sAsg (.nm 4) (mBin dAdd (mVar 4) (mBin dIx (mBin dIx (mVar 3) (mUn dNeg (mC (.int 1)))) (mC (.int 1)))))) (sNil)))
  (sRet (mTrim (mFreeze (mTup (mCons (mVar 3) (mCons (mVar 4) (mNil)))))))))
def m__law_bill : FM := trim (runB 3 6 b__law_bill)

/-! _law_alike -/
abbrev s__law_alike : Stmt := top 47
abbrev N__law_alike : List Str := ["_law_one", "_law_other", "_law_a", "_law_b"]
theorem sc__law_alike : FnScope ["_law_one", "_law_other", "_law_a", "_law_b"] ["_law_one", "_law_other"] (defScope s__law_alike) := ⟨rfl, rfl, rfl, by decide +kernel, rfl, by decide +kernel, by decide +kernel⟩
def b__law_alike (m : FM) : SM :=
  sSeq (sIf (mTest (mIsi [.tup, .lst] (mVar 0))) (sSeq (sIf (mOr (mTest (mBin dNe (mIsi [.tup] (mVar 0)) (mIsi [.tup] (mVar 1)))) (mTest (mBin dNe (mIsi [.lst] (mVar 0)) (mIsi [.lst] (mVar 1))))) (sRet (mC (.bl false))) (sNil))
  (sRet (mAndV (mBin dEq (mOpN oLen (mCons (mVar 0) (mNil))) (mOpN oLen (mCons (mVar 1) (mNil)))) (mOpN oAll (mCons (mFrz (lComp (iZipD (mCons (mVar 0) (mCons (mVar 1) (mNil)))) (.tp [2, 3]) (mYes) (mCall m [] (mCons (mVar 2) (mCons (mVar 3) (mNil)))) [2, 3])) (mNil)))))) (sNil))
  (sSeq (sIf (mOr (mTest (mBin dNe (mIsi [.bl] (mVar 0)) (mIsi [.bl] (mVar 1)))) (mTest (mBin dNe (mIsi [.int] (mVar 0)) (mIsi [.int] (mVar 1))))) (sRet (mC (.bl false))) (sNil))
  (sRet (mBin dEq (mVar 0) (mVar 1))))
def m__law_alike : Nat → FM
  | 0 => trim (runB 2 4 sBad)
  | f + 1 => trim (runB 2 4 (b__law_alike (m__law_alike f)))

/-! _law_right -/
abbrev s__law_right : Stmt := top 49
abbrev N__law_right : List Str := ["_law_tariff", "_law_accounts", "_law_handed", "_law_found", "_law_payers", "_law_account_here", "_law_payer", "_law_due", "_law_told"]
theorem sc__law_right : FnScope ["_law_tariff", "_law_accounts", "_law_handed", "_law_found", "_law_payers", "_law_account_here", "_law_payer", "_law_due", "_law_told"] ["_law_tariff", "_law_accounts"] (defScope s__law_right) := ⟨rfl, rfl, rfl, by decide +kernel, rfl, by decide +kernel, by decide +kernel⟩
def b__law_right : SM :=
  sSeq (sAsg (.nm 2) (mFrz (lList (mCons (mVar 1) (mNil)))))
  (sSeq (sAsg (.nm 3) (mCall m_pays [] (mCons (mVar 0) (mCons (mVar 2) (mNil)))))
  (sSeq (sAsg (.nm 4) (mFrz (lSortSet (mCons (mFrz (lComp (iSeq (mVar 1)) (.nm 5) (mYes) (mBin dIx (mVar 5) (mC (.int 0))) [5])) (mNil)))))
  (sSeq (sIf (mOr (mNot (mTest (mIsi [.dct] (mVar 3)))) (mTest (mBin dNe (mFrz (lList (mCons (mVar 3) (mNil)))) (mVar 4)))) (sRet (mC (.bl false))) (sNil))
  (sSeq (sFor (iSeq (mBin dAdd (mVar 4) (mFrz (lDis (mCons (mC (.int 7)) (mNil)))))) (.nm 6) (sSeq (sAsg (.nm 7) (mCall m__law_bill [] (mCons (mVar 0) (mCons (mVar 1) (mCons (mVar 6) (mNil))))))
  (sSeq (sAsg (.nm 8) (mCall m_bill [] (mCons (mVar 0) (mCons (mVar 2) (mCons (mVar 6) (mNil))))))
  (sSeq (sIf (mOr (mNot (mTest (mCall (m__law_alike 6) [] (mCons (mVar 8) (mCons (mVar 7) (mNil)))))) (mTest (mBin dNe (mGet2 (mVar 3) (mVar 6) (mC (.int 0))) (mBin dIx (mVar 7) (mC (.int 1)))))) (sRet (mC (.bl false))) (sNil))
  (sSeq (sExp (mAppend (mBin dIx (mVar 8) (mC (.int 0))) (mCons (mC .non) (mNil))))
  (sIf (mNot (mTest (mCall (m__law_alike 6) [] (mCons (mCall m_bill [] (mCons (mVar 0) (mCons (mVar 2) (mCons (mVar 6) (mNil))))) (mCons (mVar 7) (mNil)))))) (sRet (mC (.bl false))) (sNil)))))))
  (sSeq (sExp (mDclear (mVar 3)))
  (sRet (mAndV (mBin dEq (mVar 2) (mVar 1)) (mBin dEq (mFrz (lList (mCons (mCall m_pays [] (mCons (mVar 0) (mCons (mVar 2) (mNil)))) (mNil)))) (mVar 4)))))))))
def m__law_right : FM := trim (runB 2 9 b__law_right)

/-! law -/
abbrev s_law : Stmt := top 50
abbrev N_law : List Str := ["_law_script", "_law_cell", "_law_tariff", "_law_accounts", "_law_one"]
theorem sc_law : FnScope ["_law_script", "_law_cell", "_law_tariff", "_law_accounts", "_law_one"] ["_law_script"] (defScope s_law) := ⟨rfl, rfl, rfl, by decide +kernel, rfl, by decide +kernel, by decide +kernel⟩
def b_law : SM :=
  sSeq (sAsg (.nm 1) (mCall m__law_cell_at [] (mCons (mVar 0) (mCons (mC (.int 0)) (mNil)))))
  (sSeq (sAsg (.nm 2) (mTrim (mFreeze (mMake 9 m_Tariff_init [] (mCons (mTrim (mFreeze (mMake 7 m_Bands_init [] (mCons (mCall m__law_rows [] (mCons (mVar 1) (mNil))) (mCons (mCall m__law_low [] (mCons (mVar 1) (mNil))) (mNil)))))) (mCons (mTrim (mFreeze (mMake 8 m_Plan_init [] (mCons (mCall m__law_price_rows [] (mCons (mVar 1) (mNil))) (mNil))))) (mNil)))))))
  (sSeq (sAsg (.nm 3) (mNew (lDis (mNil))))
  (sSeq (sFor (iSeq (mBin dAdd (mSl (mVar 0) (mNoPart) (mPart (mC (.int 150)))) (mFrz (lDis (mCons (mC (.int 101)) (mCons (mC (.int 103)) (mNil))))))) (.nm 4) (sSeq (sExp (mAppend (mVar 3) (mCons (mCall m__law_account [] (mCons (mVar 4) (mNil))) (mNil))))
  (sSeq (sIf (mTest (mBin dEq (mBin dMod (mCall m__law_mixed [] (mCons (mVar 4) (mCons (mC (.int 457)) (mNil)))) (mC (.int 4))) (mC (.int 0)))) (sExp (mAppend (mVar 3) (mCons (mBin dIx (mVar 3) (mBin dMod (mCall m__law_mixed [] (mCons (mVar 4) (mCons (mC (.int 458)) (mNil)))) (mOpN oLen (mCons (mVar 3) (mNil))))) (mNil)))) (sNil))
  (sIf (mTest (mBin dGt (mOpN oLen (mCons (mVar 3) (mNil))) (mC (.int 38)))) (sSeq (sIf (mNot (mTest (mCall m__law_right [] (mCons (mVar 2) (mCons (mVar 3) (mNil)))))) (sRet (mC (.bl false))) (sNil))
  (sAsg (.nm 3) (mNew (lSl (mVar 3) (mNoPart) (mPart (mBin dMod (mCall m__law_mixed [] (mCons (mVar 4) (mCons (mC (.int 459)) (mNil)))) (mC (.int 5)))))))) (sNil)))))
  (sRet (mAndV (mCall m__law_right [] (mCons (mVar 2) (mCons (mVar 3) (mNil)))) (mCall m__law_right [] (mCons (mVar 2) (mCons (mFrz (lDis (mNil))) (mNil)))))))))
def m_law : FM := runB 1 5 b_law

def flds : List Str := ["figures", "begins", "ends", "kinds", "low", "things", "ways", "bands", "plan"]
structure Txt (K : PySem.W.Frag) (mg : Str → Option Value) (ct : Tb) : Prop where
  hf : ct.f = flds
  b_all : mg "all" = none
  b_bool : mg "bool" = none
  b_dict : mg "dict" = none
  b_divmod : mg "divmod" = none
  b_enumerate : mg "enumerate" = none
  b_int : mg "int" = none
  b_isinstance : mg "isinstance" = none
  b_len : mg "len" = none
  b_list : mg "list" = none
  b_max : mg "max" = none
  b_min : mg "min" = none
  b_range : mg "range" = none
  b_set : mg "set" = none
  b_sorted : mg "sorted" = none
  b_str : mg "str" = none
  b_sum : mg "sum" = none
  b_tuple : mg "tuple" = none
  b_zip : mg "zip" = none
  g_BANDS : GV K mg "BANDS" (.int 10)
  g_DAY : GV K mg "DAY" (.int 86400)
  g_FIGURES : GV K mg "FIGURES" (.str "0123456789")
  g_LAST_TIME : GV K mg "LAST_TIME" (.int 1000000000000000)
  g_MOST_FIGURES : GV K mg "MOST_FIGURES" (.int 15)
  g_MOST_PRICE : GV K mg "MOST_PRICE" (.int 1000000000)
  g_MOST_ROWS_bands : GV K mg "MOST_ROWS_bands" (.int 24)
  g_MOST_ROWS_plans : GV K mg "MOST_ROWS_plans" (.int 200)
  g_WEEK : GV K mg "WEEK" (.int 7)
  x_NoBands : ExC K mg ct "NoBands" 4
  x_NoFigures : ExC K mg ct "NoFigures" 1
  x_NoPrices : ExC K mg ct "NoPrices" 5
  x_NoTime : ExC K mg ct "NoTime" 3
  x_TooMany : ExC K mg ct "TooMany" 2
  na_7_1 : NoAttr K (ct.c 7) "begins"
  na_7_2 : NoAttr K (ct.c 7) "ends"
  na_7_3 : NoAttr K (ct.c 7) "kinds"
  na_7_4 : NoAttr K (ct.c 7) "low"
  na_8_5 : NoAttr K (ct.c 8) "things"
  na_8_6 : NoAttr K (ct.c 8) "ways"
  na_9_7 : NoAttr K (ct.c 9) "bands"
  na_9_8 : NoAttr K (ct.c 9) "plan"
  f__law_mixed : FF K mg "_law_mixed" "_law_mixed" s__law_mixed ["_law_cell", "_law_k"] []
  f__law_cell_at : FF K mg "_law_cell_at" "_law_cell_at" s__law_cell_at ["_law_script", "_law_k"] []
  f__law_figures : FF K mg "_law_figures" "_law_figures" s__law_figures ["_law_cell", "_law_most"] []
  f__law_prices : FF K mg "_law_prices" "_law_prices" s__law_prices ["_law_cell"] []
  f__law_price_rows : FF K mg "_law_price_rows" "_law_price_rows" s__law_price_rows ["_law_cell"] []
  f_is_figures : FF K mg "is_figures" "is_figures" s_is_figures ["thing"] []
  f_Plan_init : IF K mg (ct.c 8) "Plan" "Plan.__init__" s_Plan_init ["self", "rows"] []
  f__law_low : FF K mg "_law_low" "_law_low" s__law_low ["_law_cell"] []
  f__law_rows : FF K mg "_law_rows" "_law_rows" s__law_rows ["_law_cell"] []
  f_is_between : FF K mg "is_between" "is_between" s_is_between ["thing", "least", "most"] []
  f_are_days : FF K mg "are_days" "are_days" s_are_days ["days"] []
  f_is_row : FF K mg "is_row" "is_row" s_is_row ["row"] []
  f_are_rows : FF K mg "are_rows" "are_rows" s_are_rows ["rows"] []
  f_Bands_init : IF K mg (ct.c 7) "Bands" "Bands.__init__" s_Bands_init ["self", "rows", "low"] []
  f_Plan_rows : MF K (ct.c 8) "rows" "Plan.rows" s_Plan_rows ["self"] []
  f_are_prices : FF K mg "are_prices" "are_prices" s_are_prices ["prices"] []
  f_need_prices : FF K mg "need_prices" "need_prices" s_need_prices ["prices"] []
  f_Tariff_init : IF K mg (ct.c 9) "Tariff" "Tariff.__init__" s_Tariff_init ["self", "bands", "plan"] []
  f__law_time : FF K mg "_law_time" "_law_time" s__law_time ["_law_cell"] []
  f__law_account : FF K mg "_law_account" "_law_account" s__law_account ["_law_cell"] []
  f_Plan_longest : MF K (ct.c 8) "longest" "Plan.longest" s_Plan_longest ["self", "number"] []
  f_Plan_found : MF K (ct.c 8) "found" "Plan.found" s_Plan_found ["self", "number"] []
  f_Tariff_prices_of : MF K (ct.c 9) "prices_of" "Tariff.prices_of" s_Tariff_prices_of ["self", "number"] []
  f_need_time : FF K mg "need_time" "need_time" s_need_time ["time"] []
  f_Bands_of_day : MF K (ct.c 7) "of_day" "Bands.of_day" s_Bands_of_day ["self", "weekday", "second"] []
  f_Bands_ahead_of : MF K (ct.c 7) "ahead_of" "Bands.ahead_of" s_Bands_ahead_of ["self", "time"] []
  f_Bands_seconds : MF K (ct.c 7) "seconds" "Bands.seconds" s_Bands_seconds ["self", "begin", "end"] []
  f_Bands_cost : MF K (ct.c 7) "cost" "Bands.cost" s_Bands_cost ["self", "begin", "end", "prices"] []
  f_Tariff_price : MF K (ct.c 9) "price" "Tariff.price" s_Tariff_price ["self", "account"] []
  f_bill : FF K mg "bill" "bill" s_bill ["tariff", "accounts", "payer"] []
  f_pays : FF K mg "pays" "pays" s_pays ["tariff", "accounts"] []
  f__law_bill : FF K mg "_law_bill" "_law_bill" s__law_bill ["_law_tariff", "_law_accounts", "_law_payer"] []
  f__law_alike : FF K mg "_law_alike" "_law_alike" s__law_alike ["_law_one", "_law_other"] []
  f__law_right : FF K mg "_law_right" "_law_right" s__law_right ["_law_tariff", "_law_accounts"] []
  f_law : FF K mg "law" "law" s_law ["_law_script"] []
section
variable {P : Program} {w : World} {K : PySem.W.Frag} {mg : Str → Option Value} {base : Heap} {ct : Tb}
theorem Txt.fi (T : Txt K mg ct) (i : Nat) (x : Str) (h : flds[i]? = some x) : ct.f[i]? = some x := by rw [T.hf]; exact h
theorem Txt.nf (T : Txt K mg ct) (x : Str) (h : x ∉ flds) : x ∉ ct.f := by rw [T.hf]; exact h
theorem L1__law_mixed (T : Txt K mg ct) : Fn P w K mg base ct "_law_mixed" 1 m__law_mixed [] :=
  (fn_ofA (k := 0) (m := b__law_mixed) (np := 2) (n := 3) T.f__law_mixed sc__law_mixed fun f cdv A outer s H E hr tk => ms_cons (ms_asg (mg_n 2 sc__law_mixed.nd) (me_mod (me_mul (me_add (me_v 0) (me_mul (me_int) (me_v 1))) (me_int)) (me_int)))
  (ms_one (ms_ret (me_mod (me_mul (me_v 2) (me_add (me_add (me_v 2) (me_mul (me_int) (me_v 1))) (me_int))) (me_int))))).trim

theorem L1__law_cell_at (T : Txt K mg ct) : Fn P w K mg base ct "_law_cell_at" 2 m__law_cell_at [] :=
  (fn_ofA (k := 1) (m := b__law_cell_at) (np := 2) (n := 2) T.f__law_cell_at sc__law_cell_at fun f cdv A outer s H E hr tk => ms_cons (ms_if (mt_lt (me_v 1) (me_len rfl T.b_len (ma_cons (me_v 0) (ma_nil)))) (ms_one (ms_ret (me_call (L1__law_mixed T) (hr.mono (by omega)) tk rfl (ma_cons (me_ix hr (me_v 0) (me_v 1)) (ma_cons (me_v 1) (ma_nil)))))) (ms_nil))
  (ms_one (ms_ret (me_int)))).trim

theorem L1__law_figures (T : Txt K mg ct) : Fn P w K mg base ct "_law_figures" 2 m__law_figures [] :=
  (fn_ofA (k := 1) (m := b__law_figures) (np := 2) (n := 3) T.f__law_figures sc__law_figures fun f cdv A outer s H E hr tk => ms_one (ms_ret (me_join (me_str) (ma_cons (me_frz (ml_comp rfl sc__law_figures.nd (own := [(("_law_k" : Str), 2)]) (t := gName 2) (g := .nm 2) (mi_range1 rfl T.b_range (ma_cons (me_add (me_int) (me_mod (me_call (L1__law_mixed T) (hr.mono (by omega)) tk rfl (ma_cons (me_v 0) (ma_cons (me_int) (ma_nil)))) (me_v 1))) (ma_nil))) (blkOk_by (N := N__law_figures) (sc := defScope s__law_figures) (by decide +kernel)) (fun _ _ _ _ _ => pg_n 2 sc__law_figures.nd) (lg_name) (by decide) (fun _ _ _ _ _ => mts_nil) (fun _ _ _ _ _ => me_ix hr (me_str) (me_mod (me_call (L1__law_mixed T) (hr.mono (by omega)) takes0 rfl (ma_cons (me_v 0) (ma_cons (me_add (me_int) (me_v 2)) (ma_nil)))) (me_int))))) (ma_nil))))).trim

theorem L1__law_prices (T : Txt K mg ct) : Fn P w K mg base ct "_law_prices" 2 m__law_prices [] :=
  (fn_ofA (k := 1) (m := b__law_prices) (np := 1) (n := 3) T.f__law_prices sc__law_prices fun f cdv A outer s H E hr tk => ms_cons (ms_asg (mg_n 1 sc__law_prices.nd) (me_ix hr (me_frz (ml_lst (ma_cons (me_int) (ma_cons (me_int) (ma_cons (me_pow (me_int) (me_int)) (ma_nil)))))) (me_mod (me_call (L1__law_mixed T) (hr.mono (by omega)) tk rfl (ma_cons (me_v 0) (ma_cons (me_int) (ma_nil)))) (me_int))))
  (ms_one (ms_ret (me_frz (ml_comp rfl sc__law_prices.nd (own := [(("_law_k" : Str), 2)]) (t := gName 2) (g := .nm 2) (mi_range1 rfl T.b_range (ma_cons (me_int) (ma_nil))) (blkOk_by (N := N__law_prices) (sc := defScope s__law_prices) (by decide +kernel)) (fun _ _ _ _ _ => pg_n 2 sc__law_prices.nd) (lg_name) (by decide) (fun _ _ _ _ _ => mts_nil) (fun _ _ _ _ _ => me_min2 rfl rfl T.b_min (ma_cons (me_v 1) (ma_cons (me_mod (me_call (L1__law_mixed T) (hr.mono (by omega)) takes0 rfl (ma_cons (me_v 0) (ma_cons (me_add (me_int) (me_v 2)) (ma_nil)))) (me_add (me_v 1) (me_fdiv (me_v 1) (me_int)))) (ma_nil))))))))).trim

theorem L1__law_price_rows (T : Txt K mg ct) : Fn P w K mg base ct "_law_price_rows" 3 m__law_price_rows [] :=
  (fn_ofA (k := 2) (m := b__law_price_rows) (np := 1) (n := 5) T.f__law_price_rows sc__law_price_rows fun f cdv A outer s H E hr tk => ms_cons (ms_asg (mg_n 1 sc__law_price_rows.nd) (me_new (ml_lst (ma_nil))))
  (ms_cons (ms_for (passes_of rfl) rfl (mi_range1 rfl T.b_range (ma_cons (me_add (me_int) (me_mod (me_call (L1__law_mixed T) (hr.mono (by omega)) tk rfl (ma_cons (me_v 0) (ma_cons (me_int) (ma_nil)))) (me_int))) (ma_nil))) (mg_n 2 sc__law_price_rows.nd) (ms_cons (ms_asg (mg_n 3 sc__law_price_rows.nd) (me_call (L1__law_figures T) (hr.mono (by omega)) tk rfl (ma_cons (me_call (L1__law_mixed T) (hr.mono (by omega)) tk rfl (ma_cons (me_v 0) (ma_cons (me_add (me_int) (me_v 2)) (ma_nil)))) (ma_cons (me_int) (ma_nil)))))
  (ms_one (ms_if (mt_nin hr (me_v 3) (me_frz (ml_comp rfl sc__law_price_rows.nd (own := [(("_law_row" : Str), 4)]) (t := gName 4) (g := .nm 4) (mi_seq (me_v 1)) (blkOk_by (N := N__law_price_rows) (sc := defScope s__law_price_rows) (by decide +kernel)) (fun _ _ _ _ _ => pg_n 4 sc__law_price_rows.nd) (lg_name) (by decide) (fun _ _ _ _ _ => mts_nil) (fun _ _ _ _ _ => me_ix hr (me_v 4) (me_int))))) (ms_one (ms_expr (me_append (me_v 1) (ma_cons (me_tup (ma_cons (me_v 3) (ma_cons (me_call (L1__law_prices T) (hr.mono (by omega)) tk rfl (ma_cons (me_call (L1__law_mixed T) (hr.mono (by omega)) tk rfl (ma_cons (me_v 0) (ma_cons (me_add (me_int) (me_v 2)) (ma_nil)))) (ma_nil))) (ma_nil)))) (ma_nil))))) (ms_nil)))))
  (ms_one (ms_ret (me_freeze (me_v 1)))))).trim

theorem L1_is_figures (T : Txt K mg ct) : Fn P w K mg base ct "is_figures" 1 m_is_figures [] :=
  (fn_ofA (k := 0) (m := b_is_figures) (np := 1) (n := 2) T.f_is_figures sc_is_figures fun f cdv A outer s H E hr tk => ms_cons (ms_if (PW.pt (mw_or (mt_not (mt_val (me_isi rfl T.b_isinstance (me_v 0) (bts_cons (T := .str) rfl rfl T.b_str (by decide +kernel) (bts_nil))))) (mw_one (mt_not (mt_lele (me_int) (me_len rfl T.b_len (ma_cons (me_v 0) (ma_nil))) (me_glob rfl T.g_MOST_FIGURES)))))) (ms_one (ms_ret (me_bl))) (ms_nil))
  (ms_one (ms_ret (me_all rfl rfl T.b_all (ma_cons (me_frz (ml_comp rfl sc_is_figures.nd (own := [(("sign" : Str), 1)]) (t := gName 1) (g := .nm 1) (mi_seq (me_v 0)) (blkOk_by (N := N_is_figures) (sc := defScope s_is_figures) (by decide +kernel)) (fun _ _ _ _ _ => pg_n 1 sc_is_figures.nd) (lg_name) (by decide) (fun _ _ _ _ _ => mts_nil) (fun _ _ _ _ _ => me_in hr (me_v 1) (me_glob rfl T.g_FIGURES)))) (ma_nil)))))).trim

theorem L1_Plan_init (T : Txt K mg ct) : Mkr P w K mg base ct "Plan" 8 2 m_Plan_init [] :=
  mk_ofA (k := 1) (m := b_Plan_init) T.f_Plan_init sc_Plan_init fun f cdv A outer s H E hr tk => ms_cons (ms_if (mt_gt (me_len rfl T.b_len (ma_cons (me_v 1) (ma_nil))) (me_glob rfl T.g_MOST_ROWS_plans)) (ms_one (ms_raise T.x_TooMany rfl tk rfl)) (ms_nil))
  (ms_cons (ms_fld (cl := [8]) (T.fi 5 "things" rfl) (fun c hc => by cases List.mem_singleton.mp hc; exact T.na_8_5) (me_v 0) (me_dct))
  (ms_cons (ms_fld (cl := [8]) (T.fi 6 "ways" rfl) (fun c hc => by cases List.mem_singleton.mp hc; exact T.na_8_6) (me_v 0) (me_dct))
  (ms_one (ms_for (passes_of rfl) rfl (mi_seq (me_v 1)) (mg_tup rfl (mgs_c 2 sc_Plan_init.nd (mgs_c 3 sc_Plan_init.nd (mgs_nil))) rfl) (ms_cons (ms_if (mt_not (mt_val (me_call (L1_is_figures T) (hr.mono (by omega)) tk rfl (ma_cons (me_v 2) (ma_nil))))) (ms_one (ms_raise T.x_NoFigures rfl tk rfl)) (ms_nil))
  (ms_cons (ms_if (mt_in hr (me_v 2) (me_fld (T.fi 5 "things" rfl) (me_v 0))) (ms_one (ms_never)) (ms_nil))
  (ms_cons (ms_dput hr (me_fld (T.fi 5 "things" rfl) (me_v 0)) (me_v 2) (me_v 3))
  (ms_one (ms_for (passes_of rfl) rfl (mi_range1 rfl T.b_range (ma_cons (me_len rfl T.b_len (ma_cons (me_v 2) (ma_nil))) (ma_nil))) (mg_n 4 sc_Plan_init.nd) (ms_one (ms_dput hr (me_fld (T.fi 6 "ways" rfl) (me_v 0)) (me_slice (me_v 2) (mpo_none) (mpo_some (me_v 4))) (me_bl))))))))))))

theorem L1__law_low (T : Txt K mg ct) : Fn P w K mg base ct "_law_low" 2 m__law_low [] :=
  (fn_ofA (k := 1) (m := b__law_low) (np := 1) (n := 3) T.f__law_low sc__law_low fun f cdv A outer s H E hr tk => ms_cons (ms_setLc (i := 1) cv_frz rfl sc__law_low.nd rfl rfl (sw_true rfl rfl rfl (by decide +kernel)) (own := [(("_law_day" : Str), 2)]) (t := gName 2) (g := .nm 2) (mi_range1 rfl T.b_range (ma_cons (me_int) (ma_nil))) (blkOk_by (N := N__law_low) (sc := defScope s__law_low) (by decide +kernel)) (fun _ _ _ _ _ => pg_n 2 sc__law_low.nd) (lg_name) (by decide) (fun _ _ _ _ _ => mts_one (mt_eq hr (me_mod (me_call (L1__law_mixed T) (hr.mono (by omega)) takes0 rfl (ma_cons (me_v 0) (ma_cons (me_add (me_int) (me_v 2)) (ma_nil)))) (me_int)) (me_int))) (fun _ _ _ _ _ => me_v 2))
  (ms_one (ms_ret (me_ix hr (me_frz (ml_lst (ma_cons (me_non) (ma_cons (me_frz (ml_lst (ma_nil))) (ma_cons (me_v 1) (ma_cons (me_frz (ml_rev (me_v 1))) (ma_nil))))))) (me_mod (me_call (L1__law_mixed T) (hr.mono (by omega)) tk rfl (ma_cons (me_v 0) (ma_cons (me_int) (ma_nil)))) (me_int)))))).trim

theorem L1__law_rows (T : Txt K mg ct) : Fn P w K mg base ct "_law_rows" 2 m__law_rows [] :=
  (fn_ofA (k := 1) (m := b__law_rows) (np := 1) (n := 4) T.f__law_rows sc__law_rows fun f cdv A outer s H E hr tk => ms_cons (ms_asg (mg_n 1 sc__law_rows.nd) (me_new (ml_lst (ma_cons (me_int) (ma_nil)))))
  (ms_cons (ms_for (passes_of rfl) rfl (mi_range1 rfl T.b_range (ma_cons (me_ix hr (me_frz (ml_lst (ma_cons (me_int) (ma_cons (me_int) (ma_cons (me_int) (ma_cons (me_int) (ma_cons (me_int) (ma_nil)))))))) (me_mod (me_call (L1__law_mixed T) (hr.mono (by omega)) tk rfl (ma_cons (me_v 0) (ma_cons (me_int) (ma_nil)))) (me_int))) (ma_nil))) (mg_n 2 sc__law_rows.nd) (ms_cons (ms_asg (mg_n 3 sc__law_rows.nd) (me_add (me_int) (me_mod (me_call (L1__law_mixed T) (hr.mono (by omega)) tk rfl (ma_cons (me_v 0) (ma_cons (me_add (me_int) (me_v 2)) (ma_nil)))) (me_int))))
  (ms_cons (ms_if (mt_eq hr (me_mod (me_call (L1__law_mixed T) (hr.mono (by omega)) tk rfl (ma_cons (me_v 0) (ma_cons (me_add (me_int) (me_v 2)) (ma_nil)))) (me_int)) (me_int)) (ms_one (ms_asg (mg_n 3 sc__law_rows.nd) (me_ix hr (me_frz (ml_lst (ma_cons (me_int) (ma_cons (me_int) (ma_cons (me_int) (ma_cons (me_int) (ma_cons (me_int) (ma_nil)))))))) (me_mod (me_fdiv (me_call (L1__law_mixed T) (hr.mono (by omega)) tk rfl (ma_cons (me_v 0) (ma_cons (me_add (me_int) (me_v 2)) (ma_nil)))) (me_int)) (me_int))))) (ms_nil))
  (ms_one (ms_if (mt_nin hr (me_v 3) (me_v 1)) (ms_one (ms_expr (me_append (me_v 1) (ma_cons (me_v 3) (ma_nil))))) (ms_nil))))))
  (ms_one (ms_ret (me_frz (ml_comp rfl sc__law_rows.nd (own := [(("_law_k" : Str), 2), (("_law_begin" : Str), 3)]) (t := gOr (gTup K 2 (gCons (gName 2) (gCons (gName 3) gNil))) (gLst K 2 (gCons (gName 2) (gCons (gName 3) gNil)))) (g := .tp [2, 3]) (mi_enum rfl T.b_enumerate (ma_cons (me_frz (ml_sortI rfl T.b_sorted (ma_cons (me_v 1) (ma_nil)))) (ma_nil))) (blkOk_by (N := N__law_rows) (sc := defScope s__law_rows) (by decide +kernel)) (fun _ _ _ _ _ => pg_t rfl (pgs_c 2 sc__law_rows.nd (pgs_c 3 sc__law_rows.nd (pgs_nil)))) (lg_tup (lgs_cons (lgs_cons (lgs_nil))) rfl) (by decide) (fun _ _ _ _ _ => mts_nil) (fun _ _ _ _ _ => me_tup (ma_cons (me_v 3) (ma_cons (me_mod (me_call (L1__law_mixed T) (hr.mono (by omega)) takes0 rfl (ma_cons (me_v 0) (ma_cons (me_add (me_int) (me_v 2)) (ma_nil)))) (me_int)) (ma_nil)))))))))).trim

theorem L1_is_between (T : Txt K mg ct) : Fn P w K mg base ct "is_between" 1 m_is_between [] :=
  (fn_ofA (k := 0) (m := b_is_between) (np := 3) (n := 3) T.f_is_between sc_is_between fun f cdv A outer s H E hr tk => ms_one (ms_ret (me_and (me_isi rfl T.b_isinstance (me_v 0) (bts_cons (T := .int) rfl rfl T.b_int (by decide +kernel) (bts_nil))) (me_and (me_not (me_isi rfl T.b_isinstance (me_v 0) (bts_cons (T := .bl) rfl rfl T.b_bool (by decide +kernel) (bts_nil)))) (me_one (me_lele (me_v 1) (me_v 0) (me_v 2))))))).trim

theorem L1_are_days (T : Txt K mg ct) : Fn P w K mg base ct "are_days" 2 m_are_days [] :=
  (fn_ofA (k := 1) (m := b_are_days) (np := 1) (n := 2) T.f_are_days sc_are_days fun f cdv A outer s H E hr tk => ms_cons (ms_if (PW.pt (mw_or (mt_not (mt_val (me_isi rfl T.b_isinstance (me_v 0) (bts_cons (T := .lst) rfl rfl T.b_list (by decide +kernel) (bts_nil))))) (mw_one (mt_not (mt_val (me_all rfl rfl T.b_all (ma_cons (me_frz (ml_comp rfl sc_are_days.nd (own := [(("day" : Str), 1)]) (t := gName 1) (g := .nm 1) (mi_seq (me_v 0)) (blkOk_by (N := N_are_days) (sc := defScope s_are_days) (by decide +kernel)) (fun _ _ _ _ _ => pg_n 1 sc_are_days.nd) (lg_name) (by decide) (fun _ _ _ _ _ => mts_nil) (fun _ _ _ _ _ => me_call (L1_is_between T) (hr.mono (by omega)) takes0 rfl (ma_cons (me_v 1) (ma_cons (me_int) (ma_cons (me_sub (me_glob rfl T.g_WEEK) (me_int)) (ma_nil))))))) (ma_nil)))))))) (ms_one (ms_ret (me_bl))) (ms_nil))
  (ms_one (ms_ret (me_eq hr (me_lenSet rfl rfl T.b_len rfl T.b_set (ma_cons (me_v 0) (ma_nil))) (me_len rfl T.b_len (ma_cons (me_v 0) (ma_nil))))))).trim

theorem L1_is_row (T : Txt K mg ct) : Fn P w K mg base ct "is_row" 2 m_is_row [] :=
  (fn_ofA (k := 1) (m := b_is_row) (np := 1) (n := 1) T.f_is_row sc_is_row fun f cdv A outer s H E hr tk => ms_cons (ms_if (PW.pt (mw_or (mt_not (mt_val (me_isi rfl T.b_isinstance (me_v 0) (bts_cons (T := .tup) rfl rfl T.b_tuple (by decide +kernel) (bts_nil))))) (mw_one (mt_ne hr (me_len rfl T.b_len (ma_cons (me_v 0) (ma_nil))) (me_int))))) (ms_one (ms_ret (me_bl))) (ms_nil))
  (ms_one (ms_ret (me_and (me_call (L1_is_between T) (hr.mono (by omega)) tk rfl (ma_cons (me_ix hr (me_v 0) (me_int)) (ma_cons (me_int) (ma_cons (me_sub (me_glob rfl T.g_DAY) (me_int)) (ma_nil))))) (me_one (me_call (L1_is_between T) (hr.mono (by omega)) tk rfl (ma_cons (me_ix hr (me_v 0) (me_int)) (ma_cons (me_int) (ma_cons (me_sub (me_glob rfl T.g_BANDS) (me_int)) (ma_nil)))))))))).trim

theorem L1_are_rows (T : Txt K mg ct) : Fn P w K mg base ct "are_rows" 3 m_are_rows [] :=
  (fn_ofA (k := 2) (m := b_are_rows) (np := 1) (n := 4) T.f_are_rows sc_are_rows fun f cdv A outer s H E hr tk => ms_cons (ms_if (PW.pt (mw_or (mt_not (mt_val (me_isi rfl T.b_isinstance (me_v 0) (bts_cons (T := .lst) rfl rfl T.b_list (by decide +kernel) (bts_nil))))) (mw_or (mt_not (mt_lele (me_int) (me_len rfl T.b_len (ma_cons (me_v 0) (ma_nil))) (me_glob rfl T.g_MOST_ROWS_bands))) (mw_one (mt_not (mt_val (me_all rfl rfl T.b_all (ma_cons (me_frz (ml_comp rfl sc_are_rows.nd (own := [(("row" : Str), 1)]) (t := gName 1) (g := .nm 1) (mi_seq (me_v 0)) (blkOk_by (N := N_are_rows) (sc := defScope s_are_rows) (by decide +kernel)) (fun _ _ _ _ _ => pg_n 1 sc_are_rows.nd) (lg_name) (by decide) (fun _ _ _ _ _ => mts_nil) (fun _ _ _ _ _ => me_call (L1_is_row T) (hr.mono (by omega)) takes0 rfl (ma_cons (me_v 1) (ma_nil))))) (ma_nil))))))))) (ms_one (ms_ret (me_bl))) (ms_nil))
  (ms_one (ms_ret (me_and (me_eq hr (me_ix hr (me_ix hr (me_v 0) (me_int)) (me_int)) (me_int)) (me_one (me_all rfl rfl T.b_all (ma_cons (me_frz (ml_comp rfl sc_are_rows.nd (own := [(("one" : Str), 2), (("other" : Str), 3)]) (t := gOr (gTup K 2 (gCons (gName 2) (gCons (gName 3) gNil))) (gLst K 2 (gCons (gName 2) (gCons (gName 3) gNil)))) (g := .tp [2, 3]) (mi_zip rfl T.b_zip (ma_cons (me_v 0) (ma_cons (me_slice (me_v 0) (mpo_some (me_int)) (mpo_none)) (ma_nil)))) (blkOk_by (N := N_are_rows) (sc := defScope s_are_rows) (by decide +kernel)) (fun _ _ _ _ _ => pg_t rfl (pgs_c 2 sc_are_rows.nd (pgs_c 3 sc_are_rows.nd (pgs_nil)))) (lg_tup (lgs_cons (lgs_cons (lgs_nil))) rfl) (by decide) (fun _ _ _ _ _ => mts_nil) (fun _ _ _ _ _ => me_lt (me_ix hr (me_v 2) (me_int)) (me_ix hr (me_v 3) (me_int))))) (ma_nil)))))))).trim

theorem L1_Bands_init (T : Txt K mg ct) : Mkr P w K mg base ct "Bands" 7 4 m_Bands_init [] :=
  mk_ofA (k := 3) (m := b_Bands_init) T.f_Bands_init sc_Bands_init fun f cdv A outer s H E hr tk => ms_cons (ms_if (mt_is (me_v 2) (me_non)) (ms_one (ms_asg (mg_n 2 sc_Bands_init.nd) (me_frz (ml_lst (ma_nil))))) (ms_nil))
  (ms_cons (ms_if (PW.pt (mw_or (mt_not (mt_val (me_call (L1_are_rows T) (hr.mono (by omega)) tk rfl (ma_cons (me_v 1) (ma_nil))))) (mw_one (mt_not (mt_val (me_call (L1_are_days T) (hr.mono (by omega)) tk rfl (ma_cons (me_v 2) (ma_nil)))))))) (ms_one (ms_raise T.x_NoBands rfl tk rfl)) (ms_nil))
  (ms_cons (ms_fld (cl := [7]) (T.fi 1 "begins" rfl) (fun c hc => by cases List.mem_singleton.mp hc; exact T.na_7_1) (me_v 0) (me_frz (ml_comp rfl sc_Bands_init.nd (own := [(("begin" : Str), 3), (("band" : Str), 4)]) (t := gOr (gTup K 2 (gCons (gName 3) (gCons (gName 4) gNil))) (gLst K 2 (gCons (gName 3) (gCons (gName 4) gNil)))) (g := .tp [3, 4]) (mi_seq (me_v 1)) (blkOk_by (N := N_Bands_init) (sc := defScope s_Bands_init) (by decide +kernel)) (fun _ _ _ _ _ => pg_t rfl (pgs_c 3 sc_Bands_init.nd (pgs_c 4 sc_Bands_init.nd (pgs_nil)))) (lg_tup (lgs_cons (lgs_cons (lgs_nil))) rfl) (by decide) (fun _ _ _ _ _ => mts_nil) (fun _ _ _ _ _ => me_v 3))))
  (ms_cons (ms_fld (cl := [7]) (T.fi 2 "ends" rfl) (fun c hc => by cases List.mem_singleton.mp hc; exact T.na_7_2) (me_v 0) (me_add (me_slice (me_fld (T.fi 1 "begins" rfl) (me_v 0)) (mpo_some (me_int)) (mpo_none)) (me_frz (ml_lst (ma_cons (me_glob rfl T.g_DAY) (ma_nil))))))
  (ms_cons (ms_fld (cl := [7]) (T.fi 3 "kinds" rfl) (fun c hc => by cases List.mem_singleton.mp hc; exact T.na_7_3) (me_v 0) (me_frz (ml_comp rfl sc_Bands_init.nd (own := [(("begin" : Str), 3), (("band" : Str), 4)]) (t := gOr (gTup K 2 (gCons (gName 3) (gCons (gName 4) gNil))) (gLst K 2 (gCons (gName 3) (gCons (gName 4) gNil)))) (g := .tp [3, 4]) (mi_seq (me_v 1)) (blkOk_by (N := N_Bands_init) (sc := defScope s_Bands_init) (by decide +kernel)) (fun _ _ _ _ _ => pg_t rfl (pgs_c 3 sc_Bands_init.nd (pgs_c 4 sc_Bands_init.nd (pgs_nil)))) (lg_tup (lgs_cons (lgs_cons (lgs_nil))) rfl) (by decide) (fun _ _ _ _ _ => mts_nil) (fun _ _ _ _ _ => me_v 4))))
  (ms_one (ms_fld (cl := [7]) (T.fi 4 "low" rfl) (fun c hc => by cases List.mem_singleton.mp hc; exact T.na_7_4) (me_v 0) (me_frz (ml_list rfl rfl T.b_list (ma_cons (me_v 2) (ma_nil))))))))))

theorem L1_Plan_rows (T : Txt K mg ct) : Mt P w K mg base ct 8 "rows" 1 m_Plan_rows [] :=
  (mt_ofA (k := 0) (m := b_Plan_rows) (np := 1) (n := 1) T.f_Plan_rows sc_Plan_rows fun f cdv A outer s H E hr tk => ms_one (ms_ret (me_frz (ml_items rfl (me_fld (T.fi 5 "things" rfl) (me_v 0)) rfl T.b_list)))).trim

theorem L1_are_prices (T : Txt K mg ct) : Fn P w K mg base ct "are_prices" 2 m_are_prices [] :=
  (fn_ofA (k := 1) (m := b_are_prices) (np := 1) (n := 2) T.f_are_prices sc_are_prices fun f cdv A outer s H E hr tk => ms_cons (ms_if (PW.pt (mw_or (mt_not (mt_val (me_isi rfl T.b_isinstance (me_v 0) (bts_cons (T := .lst) rfl rfl T.b_list (by decide +kernel) (bts_nil))))) (mw_one (mt_ne hr (me_len rfl T.b_len (ma_cons (me_v 0) (ma_nil))) (me_glob rfl T.g_BANDS))))) (ms_one (ms_ret (me_bl))) (ms_nil))
  (ms_one (ms_ret (me_all rfl rfl T.b_all (ma_cons (me_frz (ml_comp rfl sc_are_prices.nd (own := [(("price" : Str), 1)]) (t := gName 1) (g := .nm 1) (mi_seq (me_v 0)) (blkOk_by (N := N_are_prices) (sc := defScope s_are_prices) (by decide +kernel)) (fun _ _ _ _ _ => pg_n 1 sc_are_prices.nd) (lg_name) (by decide) (fun _ _ _ _ _ => mts_nil) (fun _ _ _ _ _ => me_call (L1_is_between T) (hr.mono (by omega)) takes0 rfl (ma_cons (me_v 1) (ma_cons (me_int) (ma_cons (me_glob rfl T.g_MOST_PRICE) (ma_nil))))))) (ma_nil)))))).trim

theorem L1_need_prices (T : Txt K mg ct) : Fn P w K mg base ct "need_prices" 3 m_need_prices [] :=
  (fn_ofA (k := 2) (m := b_need_prices) (np := 1) (n := 1) T.f_need_prices sc_need_prices fun f cdv A outer s H E hr tk => ms_one (ms_if (mt_not (mt_val (me_call (L1_are_prices T) (hr.mono (by omega)) tk rfl (ma_cons (me_v 0) (ma_nil))))) (ms_one (ms_raise T.x_NoPrices rfl tk rfl)) (ms_nil))).trim

theorem L1_Tariff_init (T : Txt K mg ct) : Mkr P w K mg base ct "Tariff" 9 4 m_Tariff_init [] :=
  mk_ofA (k := 3) (m := b_Tariff_init) T.f_Tariff_init sc_Tariff_init fun f cdv A outer s H E hr tk => ms_cons (ms_asg (mg_n 3 sc_Tariff_init.nd) (me_new (ml_lst (ma_nil))))
  (ms_cons (ms_for (passes_of rfl) rfl (mi_seq (me_meth0 (me_v 2) (mt_all_cons (L1_Plan_rows T) (k := 1) (by omega) (mt_all_nil)) (T.nf "rows" (by decide +kernel)) (hr.mono (by omega)) tk)) (mg_tup rfl (mgs_c 4 sc_Tariff_init.nd (mgs_c 5 sc_Tariff_init.nd (mgs_nil))) rfl) (ms_cons (ms_expr (me_call (L1_need_prices T) (hr.mono (by omega)) tk rfl (ma_cons (me_v 5) (ma_nil))))
  (ms_one (ms_expr (me_append (me_v 3) (ma_cons (me_tup (ma_cons (me_v 4) (ma_cons (me_frz (ml_list rfl rfl T.b_list (ma_cons (me_v 5) (ma_nil)))) (ma_nil)))) (ma_nil)))))))
  (ms_cons (ms_fld (cl := [9]) (T.fi 7 "bands" rfl) (fun c hc => by cases List.mem_singleton.mp hc; exact T.na_9_7) (me_v 0) (me_v 1))
  (ms_one (ms_fld (cl := [9]) (T.fi 8 "plan" rfl) (fun c hc => by cases List.mem_singleton.mp hc; exact T.na_9_8) (me_v 0) (me_trim (me_freeze (me_make (L1_Plan_init T) (hr.mono (by omega)) tk rfl (ma_cons (me_v 3) (ma_nil)))))))))

theorem L1__law_time (T : Txt K mg ct) : Fn P w K mg base ct "_law_time" 2 m__law_time [] :=
  (fn_ofA (k := 1) (m := b__law_time) (np := 1) (n := 3) T.f__law_time sc__law_time fun f cdv A outer s H E hr tk => ms_cons (ms_asg (mg_n 1 sc__law_time.nd) (me_add (me_mul (me_call (L1__law_mixed T) (hr.mono (by omega)) tk rfl (ma_cons (me_v 0) (ma_cons (me_int) (ma_nil)))) (me_int)) (me_call (L1__law_mixed T) (hr.mono (by omega)) tk rfl (ma_cons (me_v 0) (ma_cons (me_int) (ma_nil))))))
  (ms_cons (ms_asg (mg_n 2 sc__law_time.nd) (me_max2 rfl rfl T.b_max (ma_cons (me_int) (ma_cons (me_sub (me_add (me_mul (me_mod (me_v 1) (me_int)) (me_int)) (me_mod (me_call (L1__law_mixed T) (hr.mono (by omega)) tk rfl (ma_cons (me_v 0) (ma_cons (me_int) (ma_nil)))) (me_int))) (me_int)) (ma_nil)))))
  (ms_one (ms_ret (me_ix hr (me_frz (ml_lst (ma_cons (me_mod (me_v 1) (me_int)) (ma_cons (me_v 2) (ma_cons (me_mod (me_v 1) (me_add (me_pow (me_int) (me_int)) (me_int))) (ma_cons (me_sub (me_pow (me_int) (me_int)) (me_mod (me_v 1) (me_int))) (ma_nil))))))) (me_mod (me_call (L1__law_mixed T) (hr.mono (by omega)) tk rfl (ma_cons (me_v 0) (ma_cons (me_int) (ma_nil)))) (me_int))))))).trim

theorem L1__law_account (T : Txt K mg ct) : Fn P w K mg base ct "_law_account" 3 m__law_account [] :=
  (fn_ofA (k := 2) (m := b__law_account) (np := 1) (n := 3) T.f__law_account sc__law_account fun f cdv A outer s H E hr tk => ms_cons (ms_asg (mg_tup rfl (mgs_c 1 sc__law_account.nd (mgs_c 2 sc__law_account.nd (mgs_nil))) rfl) (me_frz (ml_sortI rfl T.b_sorted (ma_cons (me_frz (ml_lst (ma_cons (me_call (L1__law_time T) (hr.mono (by omega)) tk rfl (ma_cons (me_v 0) (ma_nil))) (ma_cons (me_call (L1__law_time T) (hr.mono (by omega)) tk rfl (ma_cons (me_add (me_v 0) (me_int)) (ma_nil))) (ma_nil))))) (ma_nil)))))
  (ms_cons (ms_if (mt_eq hr (me_mod (me_call (L1__law_mixed T) (hr.mono (by omega)) tk rfl (ma_cons (me_v 0) (ma_cons (me_int) (ma_nil)))) (me_int)) (me_int)) (ms_one (ms_asg (mg_n 2 sc__law_account.nd) (me_min2 rfl rfl T.b_min (ma_cons (me_pow (me_int) (me_int)) (ma_cons (me_add (me_v 1) (me_mod (me_call (L1__law_mixed T) (hr.mono (by omega)) tk rfl (ma_cons (me_v 0) (ma_cons (me_int) (ma_nil)))) (me_int))) (ma_nil)))))) (ms_nil))
  (ms_one (ms_ret (me_tup (ma_cons (me_mul (me_mod (me_call (L1__law_mixed T) (hr.mono (by omega)) tk rfl (ma_cons (me_v 0) (ma_cons (me_int) (ma_nil)))) (me_int)) (me_int)) (ma_cons (me_call (L1__law_figures T) (hr.mono (by omega)) tk rfl (ma_cons (me_call (L1__law_mixed T) (hr.mono (by omega)) tk rfl (ma_cons (me_v 0) (ma_cons (me_int) (ma_nil)))) (ma_cons (me_int) (ma_nil)))) (ma_cons (me_v 1) (ma_cons (me_v 2) (ma_nil)))))))))).trim

theorem L1_Plan_longest (T : Txt K mg ct) : Mt P w K mg base ct 8 "longest" 1 m_Plan_longest [] :=
  (mt_ofA (k := 0) (m := b_Plan_longest) (np := 2) (n := 3) T.f_Plan_longest sc_Plan_longest fun f cdv A outer s H E hr tk => ms_cons (ms_for (passes_of rfl) rfl (mi_rangeD rfl T.b_range (ma_cons (me_len rfl T.b_len (ma_cons (me_v 1) (ma_nil))) (ma_cons (me_int) (ma_cons (me_neg (me_int)) (ma_nil))))) (mg_n 2 sc_Plan_longest.nd) (ms_one (ms_if (mt_in hr (me_slice (me_v 1) (mpo_none) (mpo_some (me_v 2))) (me_fld (T.fi 5 "things" rfl) (me_v 0))) (ms_one (ms_ret (me_slice (me_v 1) (mpo_none) (mpo_some (me_v 2))))) (ms_nil))))
  (ms_one (ms_ret (me_non)))).trim

theorem L1_Plan_found (T : Txt K mg ct) : Mt P w K mg base ct 8 "found" 2 m_Plan_found [] :=
  (mt_ofA (k := 1) (m := b_Plan_found) (np := 2) (n := 3) T.f_Plan_found sc_Plan_found fun f cdv A outer s H E hr tk => ms_cons (ms_asg (mg_n 2 sc_Plan_found.nd) (me_meth (me_v 0) (mt_all_cons (L1_Plan_longest T) (k := 1) (by omega) (mt_all_nil)) (T.nf "longest" (by decide +kernel)) (hr.mono (by omega)) tk (ma_cons (me_v 1) (ma_nil))))
  (ms_cons (ms_if (mt_is (me_v 2) (me_non)) (ms_one (ms_ret (me_non))) (ms_nil))
  (ms_one (ms_ret (me_tup (ma_cons (me_v 2) (ma_cons (me_ix hr (me_fld (T.fi 5 "things" rfl) (me_v 0)) (me_v 2)) (ma_cons (me_slice (me_v 1) (mpo_some (me_len rfl T.b_len (ma_cons (me_v 2) (ma_nil)))) (mpo_none)) (ma_nil))))))))).trim

theorem L1_Tariff_prices_of (T : Txt K mg ct) : Mt P w K mg base ct 9 "prices_of" 3 m_Tariff_prices_of [] :=
  (mt_ofA (k := 2) (m := b_Tariff_prices_of) (np := 2) (n := 3) T.f_Tariff_prices_of sc_Tariff_prices_of fun f cdv A outer s H E hr tk => ms_cons (ms_asg (mg_n 2 sc_Tariff_prices_of.nd) (me_meth (me_fld (T.fi 8 "plan" rfl) (me_v 0)) (mt_all_cons (L1_Plan_found T) (k := 2) (by omega) (mt_all_nil)) (T.nf "found" (by decide +kernel)) (hr.mono (by omega)) tk (ma_cons (me_v 1) (ma_nil))))
  (ms_cons (ms_if (mt_is (me_v 2) (me_non)) (ms_one (ms_ret (me_non))) (ms_nil))
  (ms_one (ms_ret (me_ix hr (me_v 2) (me_int)))))).trim

theorem L1_need_time (T : Txt K mg ct) : Fn P w K mg base ct "need_time" 2 m_need_time [] :=
  (fn_ofA (k := 1) (m := b_need_time) (np := 1) (n := 1) T.f_need_time sc_need_time fun f cdv A outer s H E hr tk => ms_one (ms_if (mt_not (mt_val (me_call (L1_is_between T) (hr.mono (by omega)) tk rfl (ma_cons (me_v 0) (ma_cons (me_int) (ma_cons (me_glob rfl T.g_LAST_TIME) (ma_nil))))))) (ms_one (ms_raise T.x_NoTime rfl tk rfl)) (ms_nil))).trim

theorem L1_Bands_of_day (T : Txt K mg ct) : Mt P w K mg base ct 7 "of_day" 1 m_Bands_of_day [] :=
  (mt_ofA (k := 0) (m := b_Bands_of_day) (np := 3) (n := 6) T.f_Bands_of_day sc_Bands_of_day fun f cdv A outer s H E hr tk => ms_cons (ms_asg (mg_n 3 sc_Bands_of_day.nd) (me_new (ml_rep (ml_lst (ma_cons (me_int) (ma_nil))) (me_glob rfl T.g_BANDS))))
  (ms_cons (ms_if (mt_in hr (me_v 1) (me_fld (T.fi 4 "low" rfl) (me_v 0))) (ms_cons (ms_lput (me_v 3) (me_int) (me_v 2))
  (ms_one (ms_ret (me_freeze (me_v 3))))) (ms_nil))
  (ms_cons (ms_for (passes_of rfl) rfl (mi_enum rfl T.b_enumerate (ma_cons (me_fld (T.fi 3 "kinds" rfl) (me_v 0)) (ma_nil))) (mg_tup rfl (mgs_c 4 sc_Bands_of_day.nd (mgs_c 5 sc_Bands_of_day.nd (mgs_nil))) rfl) (ms_one (ms_laug (me_v 3) (me_v 5) (me_max2 rfl rfl T.b_max (ma_cons (me_int) (ma_cons (me_sub (me_min2 rfl rfl T.b_min (ma_cons (me_v 2) (ma_cons (me_ix hr (me_fld (T.fi 2 "ends" rfl) (me_v 0)) (me_v 4)) (ma_nil)))) (me_ix hr (me_fld (T.fi 1 "begins" rfl) (me_v 0)) (me_v 4))) (ma_nil)))) ip_add)))
  (ms_one (ms_ret (me_freeze (me_v 3))))))).trim

theorem L1_Bands_ahead_of (T : Txt K mg ct) : Mt P w K mg base ct 7 "ahead_of" 2 m_Bands_ahead_of [] :=
  (mt_ofA (k := 1) (m := b_Bands_ahead_of) (np := 2) (n := 11) T.f_Bands_ahead_of sc_Bands_ahead_of fun f cdv A outer s H E hr tk => ms_cons (ms_asg (mg_tup rfl (mgs_c 2 sc_Bands_ahead_of.nd (mgs_c 3 sc_Bands_ahead_of.nd (mgs_nil))) rfl) (me_divmod rfl T.b_divmod (ma_cons (me_v 1) (ma_cons (me_glob rfl T.g_DAY) (ma_nil)))))
  (ms_cons (ms_asg (mg_tup rfl (mgs_c 4 sc_Bands_ahead_of.nd (mgs_c 5 sc_Bands_ahead_of.nd (mgs_nil))) rfl) (me_divmod rfl T.b_divmod (ma_cons (me_v 2) (ma_cons (me_glob rfl T.g_WEEK) (ma_nil)))))
  (ms_cons (ms_asg (mg_n 6 sc_Bands_ahead_of.nd) (me_meth (me_v 0) (mt_all_cons (L1_Bands_of_day T) (k := 1) (by omega) (mt_all_nil)) (T.nf "of_day" (by decide +kernel)) (hr.mono (by omega)) tk (ma_cons (me_v 5) (ma_cons (me_v 3) (ma_nil)))))
  (ms_cons (ms_for (passes_of rfl) rfl (mi_range1 rfl T.b_range (ma_cons (me_glob rfl T.g_WEEK) (ma_nil))) (mg_n 7 sc_Bands_ahead_of.nd) (ms_cons (ms_asg (mg_n 8 sc_Bands_ahead_of.nd) (me_add (me_v 4) (me_intC rfl T.b_int (ma_cons (me_lt (me_v 7) (me_v 5)) (ma_nil)))))
  (ms_one (ms_setLc (i := 6) cv_frz rfl sc_Bands_ahead_of.nd rfl rfl (sw_true rfl rfl rfl (by decide +kernel)) (own := [(("one" : Str), 9), (("other" : Str), 10)]) (t := gOr (gTup K 2 (gCons (gName 9) (gCons (gName 10) gNil))) (gLst K 2 (gCons (gName 9) (gCons (gName 10) gNil)))) (g := .tp [9, 10]) (mi_zip rfl T.b_zip (ma_cons (me_v 6) (ma_cons (me_meth (me_v 0) (mt_all_cons (L1_Bands_of_day T) (k := 1) (by omega) (mt_all_nil)) (T.nf "of_day" (by decide +kernel)) (hr.mono (by omega)) tk (ma_cons (me_v 7) (ma_cons (me_glob rfl T.g_DAY) (ma_nil)))) (ma_nil)))) (blkOk_by (N := N_Bands_ahead_of) (sc := defScope s_Bands_ahead_of) (by decide +kernel)) (fun _ _ _ _ _ => pg_t rfl (pgs_c 9 sc_Bands_ahead_of.nd (pgs_c 10 sc_Bands_ahead_of.nd (pgs_nil)))) (lg_tup (lgs_cons (lgs_cons (lgs_nil))) rfl) (by decide) (fun _ _ _ _ _ => mts_nil) (fun _ _ _ _ _ => me_add (me_v 9) (me_mul (me_v 8) (me_v 10)))))))
  (ms_one (ms_ret (me_v 6))))))).trim

theorem L1_Bands_seconds (T : Txt K mg ct) : Mt P w K mg base ct 7 "seconds" 3 m_Bands_seconds [] :=
  (mt_ofA (k := 2) (m := b_Bands_seconds) (np := 3) (n := 5) T.f_Bands_seconds sc_Bands_seconds fun f cdv A outer s H E hr tk => ms_cons (ms_expr (me_call (L1_need_time T) (hr.mono (by omega)) tk rfl (ma_cons (me_v 1) (ma_nil))))
  (ms_cons (ms_expr (me_call (L1_need_time T) (hr.mono (by omega)) tk rfl (ma_cons (me_v 2) (ma_nil))))
  (ms_cons (ms_if (mt_lt (me_v 2) (me_v 1)) (ms_one (ms_raise T.x_NoTime rfl tk rfl)) (ms_nil))
  (ms_one (ms_ret (me_frz (ml_comp rfl sc_Bands_seconds.nd (own := [(("one" : Str), 3), (("other" : Str), 4)]) (t := gOr (gTup K 2 (gCons (gName 3) (gCons (gName 4) gNil))) (gLst K 2 (gCons (gName 3) (gCons (gName 4) gNil)))) (g := .tp [3, 4]) (mi_zip rfl T.b_zip (ma_cons (me_meth (me_v 0) (mt_all_cons (L1_Bands_ahead_of T) (k := 2) (by omega) (mt_all_nil)) (T.nf "ahead_of" (by decide +kernel)) (hr.mono (by omega)) tk (ma_cons (me_v 2) (ma_nil))) (ma_cons (me_meth (me_v 0) (mt_all_cons (L1_Bands_ahead_of T) (k := 2) (by omega) (mt_all_nil)) (T.nf "ahead_of" (by decide +kernel)) (hr.mono (by omega)) tk (ma_cons (me_v 1) (ma_nil))) (ma_nil)))) (blkOk_by (N := N_Bands_seconds) (sc := defScope s_Bands_seconds) (by decide +kernel)) (fun _ _ _ _ _ => pg_t rfl (pgs_c 3 sc_Bands_seconds.nd (pgs_c 4 sc_Bands_seconds.nd (pgs_nil)))) (lg_tup (lgs_cons (lgs_cons (lgs_nil))) rfl) (by decide) (fun _ _ _ _ _ => mts_nil) (fun _ _ _ _ _ => me_sub (me_v 3) (me_v 4))))))))).trim

theorem L1_Bands_cost (T : Txt K mg ct) : Mt P w K mg base ct 7 "cost" 4 m_Bands_cost [] :=
  (mt_ofA (k := 3) (m := b_Bands_cost) (np := 4) (n := 6) T.f_Bands_cost sc_Bands_cost fun f cdv A outer s H E hr tk => ms_cons (ms_expr (me_call (L1_need_prices T) (hr.mono (by omega)) tk rfl (ma_cons (me_v 3) (ma_nil))))
  (ms_one (ms_ret (me_sum rfl rfl T.b_sum (ma_cons (me_frz (ml_comp rfl sc_Bands_cost.nd (own := [(("many" : Str), 4), (("price" : Str), 5)]) (t := gOr (gTup K 2 (gCons (gName 4) (gCons (gName 5) gNil))) (gLst K 2 (gCons (gName 4) (gCons (gName 5) gNil)))) (g := .tp [4, 5]) (mi_zip rfl T.b_zip (ma_cons (me_meth (me_v 0) (mt_all_cons (L1_Bands_seconds T) (k := 3) (by omega) (mt_all_nil)) (T.nf "seconds" (by decide +kernel)) (hr.mono (by omega)) tk (ma_cons (me_v 1) (ma_cons (me_v 2) (ma_nil)))) (ma_cons (me_v 3) (ma_nil)))) (blkOk_by (N := N_Bands_cost) (sc := defScope s_Bands_cost) (by decide +kernel)) (fun _ _ _ _ _ => pg_t rfl (pgs_c 4 sc_Bands_cost.nd (pgs_c 5 sc_Bands_cost.nd (pgs_nil)))) (lg_tup (lgs_cons (lgs_cons (lgs_nil))) rfl) (by decide) (fun _ _ _ _ _ => mts_nil) (fun _ _ _ _ _ => me_mul (me_v 4) (me_v 5)))) (ma_nil)))))).trim

theorem L1_Tariff_price (T : Txt K mg ct) : Mt P w K mg base ct 9 "price" 5 m_Tariff_price [] :=
  (mt_ofA (k := 4) (m := b_Tariff_price) (np := 2) (n := 7) T.f_Tariff_price sc_Tariff_price fun f cdv A outer s H E hr tk => ms_cons (ms_asg (mg_tup rfl (mgs_c 2 sc_Tariff_price.nd (mgs_c 3 sc_Tariff_price.nd (mgs_c 4 sc_Tariff_price.nd (mgs_c 5 sc_Tariff_price.nd (mgs_nil))))) rfl) (me_v 1))
  (ms_cons (ms_asg (mg_n 6 sc_Tariff_price.nd) (me_meth (me_v 0) (mt_all_cons (L1_Tariff_prices_of T) (k := 3) (by omega) (mt_all_nil)) (T.nf "prices_of" (by decide +kernel)) (hr.mono (by omega)) tk (ma_cons (me_v 3) (ma_nil))))
  (ms_cons (ms_if (mt_is (me_v 6) (me_non)) (ms_one (ms_ret (me_int))) (ms_nil))
  (ms_one (ms_ret (me_meth (me_fld (T.fi 7 "bands" rfl) (me_v 0)) (mt_all_cons (L1_Bands_cost T) (k := 4) (by omega) (mt_all_nil)) (T.nf "cost" (by decide +kernel)) (hr.mono (by omega)) tk (ma_cons (me_v 4) (ma_cons (me_v 5) (ma_cons (me_v 6) (ma_nil)))))))))).trim

theorem L1_bill (T : Txt K mg ct) : Fn P w K mg base ct "bill" 6 m_bill [] :=
  (fn_ofA (k := 5) (m := b_bill) (np := 3) (n := 6) T.f_bill sc_bill fun f cdv A outer s H E hr tk => ms_cons (ms_setLc (i := 3) cv_new rfl sc_bill.nd rfl rfl (sw_true rfl rfl rfl (by decide +kernel)) (own := [(("account" : Str), 4)]) (t := gName 4) (g := .nm 4) (mi_seq (me_v 1)) (blkOk_by (N := N_bill) (sc := defScope s_bill) (by decide +kernel)) (fun _ _ _ _ _ => pg_n 4 sc_bill.nd) (lg_name) (by decide) (fun _ _ _ _ _ => mts_one (mt_eq hr (me_ix hr (me_v 4) (me_int)) (me_v 2))) (fun _ _ _ _ _ => me_tup (ma_cons (me_v 4) (ma_cons (me_meth (me_v 0) (mt_all_cons (L1_Tariff_price T) (k := 5) (by omega) (mt_all_nil)) (T.nf "price" (by decide +kernel)) (hr.mono (by omega)) takes0 (ma_cons (me_v 4) (ma_nil))) (ma_nil)))))
  (ms_one (ms_ret (me_tup (ma_cons (me_v 3) (ma_cons (me_sum rfl rfl T.b_sum (ma_cons (me_frz (ml_comp rfl sc_bill.nd (own := [(("account" : Str), 4), (("cost" : Str), 5)]) (t := gOr (gTup K 2 (gCons (gName 4) (gCons (gName 5) gNil))) (gLst K 2 (gCons (gName 4) (gCons (gName 5) gNil)))) (g := .tp [4, 5]) (mi_seq (me_v 3)) (blkOk_by (N := N_bill) (sc := defScope s_bill) (by decide +kernel)) (fun _ _ _ _ _ => pg_t rfl (pgs_c 4 sc_bill.nd (pgs_c 5 sc_bill.nd (pgs_nil)))) (lg_tup (lgs_cons (lgs_cons (lgs_nil))) rfl) (by decide) (fun _ _ _ _ _ => mts_nil) (fun _ _ _ _ _ => me_v 5))) (ma_nil))) (ma_nil))))))).trim

theorem L1_pays (T : Txt K mg ct) : Fn P w K mg base ct "pays" 7 m_pays [] :=
  (fn_ofA (k := 6) (m := b_pays) (np := 2) (n := 5) T.f_pays sc_pays fun f cdv A outer s H E hr tk => ms_cons (ms_asg (mg_n 2 sc_pays.nd) (me_dct))
  (ms_cons (ms_for (passes_of rfl) rfl (mi_seq (me_frz (ml_sortSet rfl rfl T.b_sorted rfl T.b_set (ma_cons (me_frz (ml_comp rfl sc_pays.nd (own := [(("account" : Str), 4)]) (t := gName 4) (g := .nm 4) (mi_seq (me_v 1)) (blkOk_by (N := N_pays) (sc := defScope s_pays) (by decide +kernel)) (fun _ _ _ _ _ => pg_n 4 sc_pays.nd) (lg_name) (by decide) (fun _ _ _ _ _ => mts_nil) (fun _ _ _ _ _ => me_ix hr (me_v 4) (me_int)))) (ma_nil))))) (mg_n 3 sc_pays.nd) (ms_one (ms_dput hr (me_v 2) (me_v 3) (me_ix hr (me_call (L1_bill T) (hr.mono (by omega)) tk rfl (ma_cons (me_v 0) (ma_cons (me_v 1) (ma_cons (me_v 3) (ma_nil))))) (me_int)))))
  (ms_one (ms_ret (me_v 2))))).trim

theorem L1__law_bill (T : Txt K mg ct) : Fn P w K mg base ct "_law_bill" 6 m__law_bill [] :=
  (fn_ofA (k := 5) (m := b__law_bill) (np := 3) (n := 6) T.f__law_bill sc__law_bill fun f cdv A outer s H E hr tk => ms_cons (ms_asg (mg_n 3 sc__law_bill.nd) (me_new (ml_lst (ma_nil))))
  (ms_cons (ms_asg (mg_n 4 sc__law_bill.nd) (me_int))
  (ms_cons (ms_for (passes_of rfl) rfl (mi_seq (me_v 1)) (mg_n 5 sc__law_bill.nd) (ms_one (ms_if (mt_eq hr (me_ix hr (me_v 5) (me_int)) (me_v 2)) (ms_cons (ms_expr (me_append (me_v 3) (ma_cons (me_tup (ma_cons (me_v 5) (ma_cons (me_meth (me_v 0) (mt_all_cons (L1_Tariff_price T) (k := 5) (by omega) (mt_all_nil)) (T.nf "price" (by decide +kernel)) (hr.mono (by omega)) tk (ma_cons (me_v 5) (ma_nil))) (ma_nil)))) (ma_nil))))
  (ms_one (ms_asg (mg_n 4 sc__law_bill.nd) (me_add (me_v 4) (me_ix hr (me_ix hr (me_v 3) (me_neg (me_int))) (me_int)))))) (ms_nil))))
  (ms_one (ms_ret (me_trim (me_freeze (me_tup (ma_cons (me_v 3) (ma_cons (me_v 4) (ma_nil))))))))))).trim

theorem L1__law_alike_body (T : Txt K mg ct) {n : Nat} {m : FM} (ih : Fn P w K mg base ct "_law_alike" (1 + n) m []) (f : Addr) : BodyOk P w K mg base ct N__law_alike "_law_alike" s__law_alike f (1 + n) (b__law_alike m) := fun cdv A outer s H E hr tk => ms_cons (ms_if (mt_val (me_isiT rfl T.b_isinstance (me_v 0) (bts_cons (T := .tup) rfl rfl T.b_tuple (by decide +kernel) (bts_cons (T := .lst) rfl rfl T.b_list (by decide +kernel) (bts_nil))) (by decide))) (ms_cons (ms_if (PW.pt (mw_or (mt_ne hr (me_isi rfl T.b_isinstance (me_v 0) (bts_cons (T := .tup) rfl rfl T.b_tuple (by decide +kernel) (bts_nil))) (me_isi rfl T.b_isinstance (me_v 1) (bts_cons (T := .tup) rfl rfl T.b_tuple (by decide +kernel) (bts_nil)))) (mw_one (mt_ne hr (me_isi rfl T.b_isinstance (me_v 0) (bts_cons (T := .lst) rfl rfl T.b_list (by decide +kernel) (bts_nil))) (me_isi rfl T.b_isinstance (me_v 1) (bts_cons (T := .lst) rfl rfl T.b_list (by decide +kernel) (bts_nil))))))) (ms_one (ms_ret (me_bl))) (ms_nil))
  (ms_one (ms_ret (me_and (me_eq hr (me_len rfl T.b_len (ma_cons (me_v 0) (ma_nil))) (me_len rfl T.b_len (ma_cons (me_v 1) (ma_nil)))) (me_one (me_all rfl rfl T.b_all (ma_cons (me_frz (ml_comp rfl sc__law_alike.nd (own := [(("_law_a" : Str), 2), (("_law_b" : Str), 3)]) (t := gOr (gTup K 2 (gCons (gName 2) (gCons (gName 3) gNil))) (gLst K 2 (gCons (gName 2) (gCons (gName 3) gNil)))) (g := .tp [2, 3]) (mi_zip rfl T.b_zip (ma_cons (me_v 0) (ma_cons (me_v 1) (ma_nil)))) (blkOk_by (N := N__law_alike) (sc := defScope s__law_alike) (by decide +kernel)) (fun _ _ _ _ _ => pg_t rfl (pgs_c 2 sc__law_alike.nd (pgs_c 3 sc__law_alike.nd (pgs_nil)))) (lg_tup (lgs_cons (lgs_cons (lgs_nil))) rfl) (by decide) (fun _ _ _ _ _ => mts_nil) (fun _ _ _ _ _ => me_call ih (hr.mono (by omega)) takes0 rfl (ma_cons (me_v 2) (ma_cons (me_v 3) (ma_nil)))))) (ma_nil)))))))) (ms_nil))
  (ms_cons (ms_if (PW.pt (mw_or (mt_ne hr (me_isi rfl T.b_isinstance (me_v 0) (bts_cons (T := .bl) rfl rfl T.b_bool (by decide +kernel) (bts_nil))) (me_isi rfl T.b_isinstance (me_v 1) (bts_cons (T := .bl) rfl rfl T.b_bool (by decide +kernel) (bts_nil)))) (mw_one (mt_ne hr (me_isi rfl T.b_isinstance (me_v 0) (bts_cons (T := .int) rfl rfl T.b_int (by decide +kernel) (bts_nil))) (me_isi rfl T.b_isinstance (me_v 1) (bts_cons (T := .int) rfl rfl T.b_int (by decide +kernel) (bts_nil))))))) (ms_one (ms_ret (me_bl))) (ms_nil))
  (ms_one (ms_ret (me_eq hr (me_v 0) (me_v 1)))))
theorem L1__law_alike (T : Txt K mg ct) : ∀ f : Nat, Fn P w K mg base ct "_law_alike" (1 + f) (m__law_alike f) []
  | 0 => (fn_ofA (k := 0) (m := sBad) (np := 2) (n := 4) T.f__law_alike sc__law_alike fun f cdv A outer s H E hr tk => mss_never).trim
  | n + 1 => (fn_ofA (k := 1 + n) (m := b__law_alike (m__law_alike n)) (np := 2) (n := 4) T.f__law_alike sc__law_alike (L1__law_alike_body T (L1__law_alike T n))).trim

theorem L1__law_right (T : Txt K mg ct) : Fn P w K mg base ct "_law_right" 8 m__law_right [] :=
  (fn_ofA (k := 7) (m := b__law_right) (np := 2) (n := 9) T.f__law_right sc__law_right fun f cdv A outer s H E hr tk => ms_cons (ms_asg (mg_n 2 sc__law_right.nd) (me_frz (ml_list rfl rfl T.b_list (ma_cons (me_v 1) (ma_nil)))))
  (ms_cons (ms_asg (mg_n 3 sc__law_right.nd) (me_call (L1_pays T) (hr.mono (by omega)) tk rfl (ma_cons (me_v 0) (ma_cons (me_v 2) (ma_nil)))))
  (ms_cons (ms_asg (mg_n 4 sc__law_right.nd) (me_frz (ml_sortSet rfl rfl T.b_sorted rfl T.b_set (ma_cons (me_frz (ml_comp rfl sc__law_right.nd (own := [(("_law_account_here" : Str), 5)]) (t := gName 5) (g := .nm 5) (mi_seq (me_v 1)) (blkOk_by (N := N__law_right) (sc := defScope s__law_right) (by decide +kernel)) (fun _ _ _ _ _ => pg_n 5 sc__law_right.nd) (lg_name) (by decide) (fun _ _ _ _ _ => mts_nil) (fun _ _ _ _ _ => me_ix hr (me_v 5) (me_int)))) (ma_nil)))))
  (ms_cons (ms_if (PW.pt (mw_or (mt_not (mt_val (me_isi rfl T.b_isinstance (me_v 3) (bts_cons (T := .dct) rfl rfl T.b_dict (by decide +kernel) (bts_nil))))) (mw_one (mt_ne hr (me_frz (ml_list rfl rfl T.b_list (ma_cons (me_v 3) (ma_nil)))) (me_v 4))))) (ms_one (ms_ret (me_bl))) (ms_nil))
  (ms_cons (ms_for (passes_of rfl) rfl (mi_seq (me_add (me_v 4) (me_frz (ml_lst (ma_cons (me_int) (ma_nil)))))) (mg_n 6 sc__law_right.nd) (ms_cons (ms_asg (mg_n 7 sc__law_right.nd) (me_call (L1__law_bill T) (hr.mono (by omega)) tk rfl (ma_cons (me_v 0) (ma_cons (me_v 1) (ma_cons (me_v 6) (ma_nil))))))
  (ms_cons (ms_asg (mg_n 8 sc__law_right.nd) (me_call (L1_bill T) (hr.mono (by omega)) tk rfl (ma_cons (me_v 0) (ma_cons (me_v 2) (ma_cons (me_v 6) (ma_nil))))))
  (ms_cons (ms_if (PW.pt (mw_or (mt_not (mt_val (me_call (L1__law_alike T 6) (hr.mono (by omega)) tk rfl (ma_cons (me_v 8) (ma_cons (me_v 7) (ma_nil)))))) (mw_one (mt_ne hr (me_get2 hr (me_v 3) (me_v 6) (me_int)) (me_ix hr (me_v 7) (me_int)))))) (ms_one (ms_ret (me_bl))) (ms_nil))
  (ms_cons (ms_expr (me_append (me_ix hr (me_v 8) (me_int)) (ma_cons (me_non) (ma_nil))))
  (ms_one (ms_if (mt_not (mt_val (me_call (L1__law_alike T 6) (hr.mono (by omega)) tk rfl (ma_cons (me_call (L1_bill T) (hr.mono (by omega)) tk rfl (ma_cons (me_v 0) (ma_cons (me_v 2) (ma_cons (me_v 6) (ma_nil))))) (ma_cons (me_v 7) (ma_nil)))))) (ms_one (ms_ret (me_bl))) (ms_nil))))))))
  (ms_cons (ms_expr (me_clearD (me_v 3)))
  (ms_one (ms_ret (me_and (me_eq hr (me_v 2) (me_v 1)) (me_one (me_eq hr (me_frz (ml_list rfl rfl T.b_list (ma_cons (me_call (L1_pays T) (hr.mono (by omega)) tk rfl (ma_cons (me_v 0) (ma_cons (me_v 2) (ma_nil)))) (ma_nil)))) (me_v 4)))))))))))).trim

theorem L1_law_body {P : Program} {w : World} {K : PySem.W.Frag} {mg : Str → Option Value} {base : Heap} {ct : Tb} (T : Txt K mg ct) {f : Addr} : BodyOk P w K mg base ct ["_law_script", "_law_cell", "_law_tariff", "_law_accounts", "_law_one"] "law" s_law f 8 b_law := fun cdv A outer s H E hr tk => ms_cons (ms_asg (mg_n 1 sc_law.nd) (me_call (L1__law_cell_at T) (hr.mono (by omega)) tk rfl (ma_cons (me_v 0) (ma_cons (me_int) (ma_nil)))))
  (ms_cons (ms_asg (mg_n 2 sc_law.nd) (me_trim (me_freeze (me_make (L1_Tariff_init T) (hr.mono (by omega)) tk rfl (ma_cons (me_trim (me_freeze (me_make (L1_Bands_init T) (hr.mono (by omega)) tk rfl (ma_cons (me_call (L1__law_rows T) (hr.mono (by omega)) tk rfl (ma_cons (me_v 1) (ma_nil))) (ma_cons (me_call (L1__law_low T) (hr.mono (by omega)) tk rfl (ma_cons (me_v 1) (ma_nil))) (ma_nil)))))) (ma_cons (me_trim (me_freeze (me_make (L1_Plan_init T) (hr.mono (by omega)) tk rfl (ma_cons (me_call (L1__law_price_rows T) (hr.mono (by omega)) tk rfl (ma_cons (me_v 1) (ma_nil))) (ma_nil))))) (ma_nil)))))))
  (ms_cons (ms_asg (mg_n 3 sc_law.nd) (me_new (ml_lst (ma_nil))))
  (ms_cons (ms_for (passes_of rfl) rfl (mi_seq (me_add (me_slice (me_v 0) (mpo_none) (mpo_some (me_int))) (me_frz (ml_lst (ma_cons (me_int) (ma_cons (me_int) (ma_nil))))))) (mg_n 4 sc_law.nd) (ms_cons (ms_expr (me_append (me_v 3) (ma_cons (me_call (L1__law_account T) (hr.mono (by omega)) tk rfl (ma_cons (me_v 4) (ma_nil))) (ma_nil))))
  (ms_cons (ms_if (mt_eq hr (me_mod (me_call (L1__law_mixed T) (hr.mono (by omega)) tk rfl (ma_cons (me_v 4) (ma_cons (me_int) (ma_nil)))) (me_int)) (me_int)) (ms_one (ms_expr (me_append (me_v 3) (ma_cons (me_ix hr (me_v 3) (me_mod (me_call (L1__law_mixed T) (hr.mono (by omega)) tk rfl (ma_cons (me_v 4) (ma_cons (me_int) (ma_nil)))) (me_len rfl T.b_len (ma_cons (me_v 3) (ma_nil))))) (ma_nil))))) (ms_nil))
  (ms_one (ms_if (mt_gt (me_len rfl T.b_len (ma_cons (me_v 3) (ma_nil))) (me_int)) (ms_cons (ms_if (mt_not (mt_val (me_call (L1__law_right T) (hr.mono (by omega)) tk rfl (ma_cons (me_v 2) (ma_cons (me_v 3) (ma_nil)))))) (ms_one (ms_ret (me_bl))) (ms_nil))
  (ms_one (ms_asg (mg_n 3 sc_law.nd) (me_new (ml_slice (me_v 3) (mpo_none) (mpo_some (me_mod (me_call (L1__law_mixed T) (hr.mono (by omega)) tk rfl (ma_cons (me_v 4) (ma_cons (me_int) (ma_nil)))) (me_int)))))))) (ms_nil))))))
  (ms_one (ms_ret (me_and (me_call (L1__law_right T) (hr.mono (by omega)) tk rfl (ma_cons (me_v 2) (ma_cons (me_v 3) (ma_nil)))) (me_one (me_call (L1__law_right T) (hr.mono (by omega)) tk rfl (ma_cons (me_v 2) (ma_cons (me_frz (ml_lst (ma_nil))) (ma_nil)))))))))))

end
def spLaw (K : PySem.W.Frag) : Sp := fun vs H Q _ => ∃ (a : Addr) (ns : List Int), vs = [.ref a] ∧ SqL K H a (ns.map V.int) ∧ ns.length ≤ 63 ∧ (∀ z ∈ ns, PySem.Builtin.Int.intBits z ≤ 1048576) ∧ ∀ v, v = .bl true → ∀ H', Q v H'
/-- LEVEL 2, what is left: the mirror of the law is true -/
def Law2 : Prop := ∀ ns : List Int, ns.length ≤ 63 → (∀ z ∈ ns, PySem.Builtin.Int.intBits z ≤ 1048576) → ∃ S, m_law [.lst (ns.map .int)] [] = .ok (.bl true) S
theorem law_ok {P : Program} {w : World} {K : PySem.W.Frag} {mg : Str → Option Value} {base : Heap} {k : Nat} {f : Addr} {fd : FuncData} {ps : List Str} {ct : Tb} (L : Law2) (F : FnOk P w K mg base (L2.CX P w) k f fd ps (spM K ct m_law)) : FnOk P w K mg base (L2.CX P w) k f fd ps (spLaw K) :=
  fn_impl F fun vs H Q E h => by
    obtain ⟨a, ns, rfl, hS, hl, hb, hq⟩ := h
    exact spM_law (ct := ct) (L ns hl hb) hS hq
theorem all_mk {l : PySem.W.OpenLaw} {w : World} {K : PySem.W.Frag} {h : Heap} {mg : Str → Option Value} {fa C_Bands C_Plan C_Tariff C_NoBands C_NoFigures C_NoPrices C_NoTime C_TooMany f__law_mixed f__law_cell_at f__law_figures f__law_prices f__law_price_rows f_is_figures f_Plan_init f__law_low f__law_rows f_is_between f_are_days f_is_row f_are_rows f_Bands_init TT_Bands_init f_Plan_rows f_are_prices f_need_prices f_Tariff_init f__law_time f__law_account f_Plan_longest f_Plan_found f_Tariff_prices_of f_need_time f_Bands_of_day f_Bands_ahead_of f_Bands_seconds f_Bands_cost f_Tariff_price f_bill f_pays f__law_bill f__law_alike f__law_right f_law : Addr} (L : Law2) (X : K.In h) (G : h.Ns mainGlobals mg) (hfa : mg "law" = some (.ref fa))
    {od__law_mixed an__law_mixed od__law_cell_at an__law_cell_at od__law_figures an__law_figures od__law_prices an__law_prices od__law_price_rows an__law_price_rows od_is_figures an_is_figures od_Plan_init an_Plan_init od__law_low an__law_low od__law_rows an__law_rows od_is_between an_is_between od_are_days an_are_days od_is_row an_is_row od_are_rows an_are_rows od_Bands_init an_Bands_init dT_Bands_init od_Plan_rows an_Plan_rows od_are_prices an_are_prices od_need_prices an_need_prices od_Tariff_init an_Tariff_init od__law_time an__law_time od__law_account an__law_account od_Plan_longest an_Plan_longest od_Plan_found an_Plan_found od_Tariff_prices_of an_Tariff_prices_of od_need_time an_need_time od_Bands_of_day an_Bands_of_day od_Bands_ahead_of an_Bands_ahead_of od_Bands_seconds an_Bands_seconds od_Bands_cost an_Bands_cost od_Tariff_price an_Tariff_price od_bill an_bill od_pays an_pays od__law_bill an__law_bill od__law_alike an__law_alike od__law_right an__law_right od_law an_law : Option Addr} {sl__law_mixed sl__law_cell_at sl__law_figures sl__law_prices sl__law_price_rows sl_is_figures sl_Plan_init sl__law_low sl__law_rows sl_is_between sl_are_days sl_is_row sl_are_rows sl_Bands_init sT_Bands_init sl_Plan_rows sl_are_prices sl_need_prices sl_Tariff_init sl__law_time sl__law_account sl_Plan_longest sl_Plan_found sl_Tariff_prices_of sl_need_time sl_Bands_of_day sl_Bands_ahead_of sl_Bands_seconds sl_Bands_cost sl_Tariff_price sl_bill sl_pays sl__law_bill sl__law_alike sl__law_right sl_law : Array (Option Value)} {oc__law_mixed kV__law_mixed dc__law_mixed pm__law_mixed cd__law_mixed ct__law_mixed oc__law_cell_at kV__law_cell_at dc__law_cell_at pm__law_cell_at cd__law_cell_at ct__law_cell_at oc__law_figures kV__law_figures dc__law_figures pm__law_figures cd__law_figures ct__law_figures oc__law_prices kV__law_prices dc__law_prices pm__law_prices cd__law_prices ct__law_prices oc__law_price_rows kV__law_price_rows dc__law_price_rows pm__law_price_rows cd__law_price_rows ct__law_price_rows oc_is_figures kV_is_figures dc_is_figures pm_is_figures cd_is_figures ct_is_figures oc_Plan_init kV_Plan_init dc_Plan_init pm_Plan_init cd_Plan_init ct_Plan_init oc__law_low kV__law_low dc__law_low pm__law_low cd__law_low ct__law_low oc__law_rows kV__law_rows dc__law_rows pm__law_rows cd__law_rows ct__law_rows oc_is_between kV_is_between dc_is_between pm_is_between cd_is_between ct_is_between oc_are_days kV_are_days dc_are_days pm_are_days cd_are_days ct_are_days oc_is_row kV_is_row dc_is_row pm_is_row cd_is_row ct_is_row oc_are_rows kV_are_rows dc_are_rows pm_are_rows cd_are_rows ct_are_rows oc_Bands_init kV_Bands_init dc_Bands_init pm_Bands_init cd_Bands_init ct_Bands_init oT_Bands_init oc_Plan_rows kV_Plan_rows dc_Plan_rows pm_Plan_rows cd_Plan_rows ct_Plan_rows oc_are_prices kV_are_prices dc_are_prices pm_are_prices cd_are_prices ct_are_prices oc_need_prices kV_need_prices dc_need_prices pm_need_prices cd_need_prices ct_need_prices oc_Tariff_init kV_Tariff_init dc_Tariff_init pm_Tariff_init cd_Tariff_init ct_Tariff_init oc__law_time kV__law_time dc__law_time pm__law_time cd__law_time ct__law_time oc__law_account kV__law_account dc__law_account pm__law_account cd__law_account ct__law_account oc_Plan_longest kV_Plan_longest dc_Plan_longest pm_Plan_longest cd_Plan_longest ct_Plan_longest oc_Plan_found kV_Plan_found dc_Plan_found pm_Plan_found cd_Plan_found ct_Plan_found oc_Tariff_prices_of kV_Tariff_prices_of dc_Tariff_prices_of pm_Tariff_prices_of cd_Tariff_prices_of ct_Tariff_prices_of oc_need_time kV_need_time dc_need_time pm_need_time cd_need_time ct_need_time oc_Bands_of_day kV_Bands_of_day dc_Bands_of_day pm_Bands_of_day cd_Bands_of_day ct_Bands_of_day oc_Bands_ahead_of kV_Bands_ahead_of dc_Bands_ahead_of pm_Bands_ahead_of cd_Bands_ahead_of ct_Bands_ahead_of oc_Bands_seconds kV_Bands_seconds dc_Bands_seconds pm_Bands_seconds cd_Bands_seconds ct_Bands_seconds oc_Bands_cost kV_Bands_cost dc_Bands_cost pm_Bands_cost cd_Bands_cost ct_Bands_cost oc_Tariff_price kV_Tariff_price dc_Tariff_price pm_Tariff_price cd_Tariff_price ct_Tariff_price oc_bill kV_bill dc_bill pm_bill cd_bill ct_bill oc_pays kV_pays dc_pays pm_pays cd_pays ct_pays oc__law_bill kV__law_bill dc__law_bill pm__law_bill cd__law_bill ct__law_bill oc__law_alike kV__law_alike dc__law_alike pm__law_alike cd__law_alike ct__law_alike oc__law_right kV__law_right dc__law_right pm__law_right cd__law_right ct__law_right oc_law kV_law dc_law pm_law cd_law ct_law : Value} {t_BANDS t_DAY t_FIGURES t_LAST_TIME t_MOST_FIGURES t_MOST_PRICE t_MOST_ROWS_bands t_MOST_ROWS_plans t_WEEK : Tok} {nT_Bands_init : Nat}
    (a_Bands : PySem.W.nsIn K mainGlobals "Bands" = some (some (.ref C_Bands)))
    (pg_Bands : PySem.W.plainGet K C_Bands Str.empty = true)
    (hd_Bands : PySem.W.hasDictIn K C_Bands = true)
    (po_Bands : PySem.W.plainOver K C_Bands = true)
    (sa_Bands : PySem.W.findIn K (.ref C_Bands) "__setattr__" = some (some (.builtin "object.__setattr__")))
    (mk_Bands : PySem.W.makesIn K C_Bands = true)
    (kc_Bands : PySem.W.keepIn K (.ref C_Bands) = true)
    (a_Plan : PySem.W.nsIn K mainGlobals "Plan" = some (some (.ref C_Plan)))
    (pg_Plan : PySem.W.plainGet K C_Plan Str.empty = true)
    (hd_Plan : PySem.W.hasDictIn K C_Plan = true)
    (po_Plan : PySem.W.plainOver K C_Plan = true)
    (sa_Plan : PySem.W.findIn K (.ref C_Plan) "__setattr__" = some (some (.builtin "object.__setattr__")))
    (mk_Plan : PySem.W.makesIn K C_Plan = true)
    (kc_Plan : PySem.W.keepIn K (.ref C_Plan) = true)
    (a_Tariff : PySem.W.nsIn K mainGlobals "Tariff" = some (some (.ref C_Tariff)))
    (pg_Tariff : PySem.W.plainGet K C_Tariff Str.empty = true)
    (hd_Tariff : PySem.W.hasDictIn K C_Tariff = true)
    (po_Tariff : PySem.W.plainOver K C_Tariff = true)
    (sa_Tariff : PySem.W.findIn K (.ref C_Tariff) "__setattr__" = some (some (.builtin "object.__setattr__")))
    (mk_Tariff : PySem.W.makesIn K C_Tariff = true)
    (kc_Tariff : PySem.W.keepIn K (.ref C_Tariff) = true)
    (a_NoBands : PySem.W.nsIn K mainGlobals "NoBands" = some (some (.ref C_NoBands)))
    (xq_NoBands : PySem.W.excIn K C_NoBands [.type "ValueError", .type "Exception", .type "BaseException", .type "object"] "ValueError.__new__" = true)
    (xk_NoBands : PySem.W.keepIn K (.ref C_NoBands) = true)
    (xb_NoBands : PySem.W.subIn K (.ref C_NoBands) (.type "BaseException") = some true)
    (xt_NoBands : PySem.W.typeIn K (.ref C_NoBands) = some (.type "type"))
    (a_NoFigures : PySem.W.nsIn K mainGlobals "NoFigures" = some (some (.ref C_NoFigures)))
    (xq_NoFigures : PySem.W.excIn K C_NoFigures [.type "ValueError", .type "Exception", .type "BaseException", .type "object"] "ValueError.__new__" = true)
    (xk_NoFigures : PySem.W.keepIn K (.ref C_NoFigures) = true)
    (xb_NoFigures : PySem.W.subIn K (.ref C_NoFigures) (.type "BaseException") = some true)
    (xt_NoFigures : PySem.W.typeIn K (.ref C_NoFigures) = some (.type "type"))
    (a_NoPrices : PySem.W.nsIn K mainGlobals "NoPrices" = some (some (.ref C_NoPrices)))
    (xq_NoPrices : PySem.W.excIn K C_NoPrices [.type "ValueError", .type "Exception", .type "BaseException", .type "object"] "ValueError.__new__" = true)
    (xk_NoPrices : PySem.W.keepIn K (.ref C_NoPrices) = true)
    (xb_NoPrices : PySem.W.subIn K (.ref C_NoPrices) (.type "BaseException") = some true)
    (xt_NoPrices : PySem.W.typeIn K (.ref C_NoPrices) = some (.type "type"))
    (a_NoTime : PySem.W.nsIn K mainGlobals "NoTime" = some (some (.ref C_NoTime)))
    (xq_NoTime : PySem.W.excIn K C_NoTime [.type "ValueError", .type "Exception", .type "BaseException", .type "object"] "ValueError.__new__" = true)
    (xk_NoTime : PySem.W.keepIn K (.ref C_NoTime) = true)
    (xb_NoTime : PySem.W.subIn K (.ref C_NoTime) (.type "BaseException") = some true)
    (xt_NoTime : PySem.W.typeIn K (.ref C_NoTime) = some (.type "type"))
    (a_TooMany : PySem.W.nsIn K mainGlobals "TooMany" = some (some (.ref C_TooMany)))
    (xq_TooMany : PySem.W.excIn K C_TooMany [.type "ValueError", .type "Exception", .type "BaseException", .type "object"] "ValueError.__new__" = true)
    (xk_TooMany : PySem.W.keepIn K (.ref C_TooMany) = true)
    (xb_TooMany : PySem.W.subIn K (.ref C_TooMany) (.type "BaseException") = some true)
    (xt_TooMany : PySem.W.typeIn K (.ref C_TooMany) = some (.type "type"))
    (na_7_1 : PySem.W.findIn K (.ref C_Bands) "begins" = some none)
    (na_7_2 : PySem.W.findIn K (.ref C_Bands) "ends" = some none)
    (na_7_3 : PySem.W.findIn K (.ref C_Bands) "kinds" = some none)
    (na_7_4 : PySem.W.findIn K (.ref C_Bands) "low" = some none)
    (na_8_5 : PySem.W.findIn K (.ref C_Plan) "things" = some none)
    (na_8_6 : PySem.W.findIn K (.ref C_Plan) "ways" = some none)
    (na_9_7 : PySem.W.findIn K (.ref C_Tariff) "bands" = some none)
    (na_9_8 : PySem.W.findIn K (.ref C_Tariff) "plan" = some none)
    (a__law_mixed : PySem.W.nsIn K mainGlobals "_law_mixed" = some (some (.ref f__law_mixed)))
    (l__law_mixed : K.lookup f__law_mixed = some ⟨oc__law_mixed, od__law_mixed, .func (PySem.W.fnOf "_law_mixed" "_law_mixed" (defArgs s__law_mixed) (defBody s__law_mixed) (defScope s__law_mixed) .none kV__law_mixed dc__law_mixed pm__law_mixed an__law_mixed cd__law_mixed ct__law_mixed), sl__law_mixed⟩)
    (c__law_mixed : PySem.W.codeIn K cd__law_mixed "_law_mixed" = true)
    (k__law_mixed : PySem.W.keepIn K (.ref f__law_mixed) = true)
    (a__law_cell_at : PySem.W.nsIn K mainGlobals "_law_cell_at" = some (some (.ref f__law_cell_at)))
    (l__law_cell_at : K.lookup f__law_cell_at = some ⟨oc__law_cell_at, od__law_cell_at, .func (PySem.W.fnOf "_law_cell_at" "_law_cell_at" (defArgs s__law_cell_at) (defBody s__law_cell_at) (defScope s__law_cell_at) .none kV__law_cell_at dc__law_cell_at pm__law_cell_at an__law_cell_at cd__law_cell_at ct__law_cell_at), sl__law_cell_at⟩)
    (c__law_cell_at : PySem.W.codeIn K cd__law_cell_at "_law_cell_at" = true)
    (k__law_cell_at : PySem.W.keepIn K (.ref f__law_cell_at) = true)
    (a__law_figures : PySem.W.nsIn K mainGlobals "_law_figures" = some (some (.ref f__law_figures)))
    (l__law_figures : K.lookup f__law_figures = some ⟨oc__law_figures, od__law_figures, .func (PySem.W.fnOf "_law_figures" "_law_figures" (defArgs s__law_figures) (defBody s__law_figures) (defScope s__law_figures) .none kV__law_figures dc__law_figures pm__law_figures an__law_figures cd__law_figures ct__law_figures), sl__law_figures⟩)
    (c__law_figures : PySem.W.codeIn K cd__law_figures "_law_figures" = true)
    (k__law_figures : PySem.W.keepIn K (.ref f__law_figures) = true)
    (a__law_prices : PySem.W.nsIn K mainGlobals "_law_prices" = some (some (.ref f__law_prices)))
    (l__law_prices : K.lookup f__law_prices = some ⟨oc__law_prices, od__law_prices, .func (PySem.W.fnOf "_law_prices" "_law_prices" (defArgs s__law_prices) (defBody s__law_prices) (defScope s__law_prices) .none kV__law_prices dc__law_prices pm__law_prices an__law_prices cd__law_prices ct__law_prices), sl__law_prices⟩)
    (c__law_prices : PySem.W.codeIn K cd__law_prices "_law_prices" = true)
    (k__law_prices : PySem.W.keepIn K (.ref f__law_prices) = true)
    (a__law_price_rows : PySem.W.nsIn K mainGlobals "_law_price_rows" = some (some (.ref f__law_price_rows)))
    (l__law_price_rows : K.lookup f__law_price_rows = some ⟨oc__law_price_rows, od__law_price_rows, .func (PySem.W.fnOf "_law_price_rows" "_law_price_rows" (defArgs s__law_price_rows) (defBody s__law_price_rows) (defScope s__law_price_rows) .none kV__law_price_rows dc__law_price_rows pm__law_price_rows an__law_price_rows cd__law_price_rows ct__law_price_rows), sl__law_price_rows⟩)
    (c__law_price_rows : PySem.W.codeIn K cd__law_price_rows "_law_price_rows" = true)
    (k__law_price_rows : PySem.W.keepIn K (.ref f__law_price_rows) = true)
    (a_is_figures : PySem.W.nsIn K mainGlobals "is_figures" = some (some (.ref f_is_figures)))
    (l_is_figures : K.lookup f_is_figures = some ⟨oc_is_figures, od_is_figures, .func (PySem.W.fnOf "is_figures" "is_figures" (defArgs s_is_figures) (defBody s_is_figures) (defScope s_is_figures) .none kV_is_figures dc_is_figures pm_is_figures an_is_figures cd_is_figures ct_is_figures), sl_is_figures⟩)
    (c_is_figures : PySem.W.codeIn K cd_is_figures "is_figures" = true)
    (k_is_figures : PySem.W.keepIn K (.ref f_is_figures) = true)
    (a_Plan_init : PySem.W.findIn K (.ref C_Plan) "__init__" = some (some (.ref f_Plan_init)))
    (i_Plan_init : PySem.W.isFn K (.ref f_Plan_init) = true)
    (l_Plan_init : K.lookup f_Plan_init = some ⟨oc_Plan_init, od_Plan_init, .func (PySem.W.fnOf "__init__" "Plan.__init__" (defArgs s_Plan_init) (defBody s_Plan_init) (defScope s_Plan_init) .none kV_Plan_init dc_Plan_init pm_Plan_init an_Plan_init cd_Plan_init ct_Plan_init), sl_Plan_init⟩)
    (c_Plan_init : PySem.W.codeIn K cd_Plan_init "Plan.__init__" = true)
    (k_Plan_init : PySem.W.keepIn K (.ref f_Plan_init) = true)
    (a__law_low : PySem.W.nsIn K mainGlobals "_law_low" = some (some (.ref f__law_low)))
    (l__law_low : K.lookup f__law_low = some ⟨oc__law_low, od__law_low, .func (PySem.W.fnOf "_law_low" "_law_low" (defArgs s__law_low) (defBody s__law_low) (defScope s__law_low) .none kV__law_low dc__law_low pm__law_low an__law_low cd__law_low ct__law_low), sl__law_low⟩)
    (c__law_low : PySem.W.codeIn K cd__law_low "_law_low" = true)
    (k__law_low : PySem.W.keepIn K (.ref f__law_low) = true)
    (a__law_rows : PySem.W.nsIn K mainGlobals "_law_rows" = some (some (.ref f__law_rows)))
    (l__law_rows : K.lookup f__law_rows = some ⟨oc__law_rows, od__law_rows, .func (PySem.W.fnOf "_law_rows" "_law_rows" (defArgs s__law_rows) (defBody s__law_rows) (defScope s__law_rows) .none kV__law_rows dc__law_rows pm__law_rows an__law_rows cd__law_rows ct__law_rows), sl__law_rows⟩)
    (c__law_rows : PySem.W.codeIn K cd__law_rows "_law_rows" = true)
    (k__law_rows : PySem.W.keepIn K (.ref f__law_rows) = true)
    (a_is_between : PySem.W.nsIn K mainGlobals "is_between" = some (some (.ref f_is_between)))
    (l_is_between : K.lookup f_is_between = some ⟨oc_is_between, od_is_between, .func (PySem.W.fnOf "is_between" "is_between" (defArgs s_is_between) (defBody s_is_between) (defScope s_is_between) .none kV_is_between dc_is_between pm_is_between an_is_between cd_is_between ct_is_between), sl_is_between⟩)
    (c_is_between : PySem.W.codeIn K cd_is_between "is_between" = true)
    (k_is_between : PySem.W.keepIn K (.ref f_is_between) = true)
    (a_are_days : PySem.W.nsIn K mainGlobals "are_days" = some (some (.ref f_are_days)))
    (l_are_days : K.lookup f_are_days = some ⟨oc_are_days, od_are_days, .func (PySem.W.fnOf "are_days" "are_days" (defArgs s_are_days) (defBody s_are_days) (defScope s_are_days) .none kV_are_days dc_are_days pm_are_days an_are_days cd_are_days ct_are_days), sl_are_days⟩)
    (c_are_days : PySem.W.codeIn K cd_are_days "are_days" = true)
    (k_are_days : PySem.W.keepIn K (.ref f_are_days) = true)
    (a_is_row : PySem.W.nsIn K mainGlobals "is_row" = some (some (.ref f_is_row)))
    (l_is_row : K.lookup f_is_row = some ⟨oc_is_row, od_is_row, .func (PySem.W.fnOf "is_row" "is_row" (defArgs s_is_row) (defBody s_is_row) (defScope s_is_row) .none kV_is_row dc_is_row pm_is_row an_is_row cd_is_row ct_is_row), sl_is_row⟩)
    (c_is_row : PySem.W.codeIn K cd_is_row "is_row" = true)
    (k_is_row : PySem.W.keepIn K (.ref f_is_row) = true)
    (a_are_rows : PySem.W.nsIn K mainGlobals "are_rows" = some (some (.ref f_are_rows)))
    (l_are_rows : K.lookup f_are_rows = some ⟨oc_are_rows, od_are_rows, .func (PySem.W.fnOf "are_rows" "are_rows" (defArgs s_are_rows) (defBody s_are_rows) (defScope s_are_rows) .none kV_are_rows dc_are_rows pm_are_rows an_are_rows cd_are_rows ct_are_rows), sl_are_rows⟩)
    (c_are_rows : PySem.W.codeIn K cd_are_rows "are_rows" = true)
    (k_are_rows : PySem.W.keepIn K (.ref f_are_rows) = true)
    (a_Bands_init : PySem.W.findIn K (.ref C_Bands) "__init__" = some (some (.ref f_Bands_init)))
    (i_Bands_init : PySem.W.isFn K (.ref f_Bands_init) = true)
    (l_Bands_init : K.lookup f_Bands_init = some ⟨oc_Bands_init, od_Bands_init, .func (PySem.W.fnOf "__init__" "Bands.__init__" (defArgs s_Bands_init) (defBody s_Bands_init) (defScope s_Bands_init) (.ref TT_Bands_init) kV_Bands_init dc_Bands_init pm_Bands_init an_Bands_init cd_Bands_init ct_Bands_init), sl_Bands_init⟩)
    (c_Bands_init : PySem.W.codeIn K cd_Bands_init "Bands.__init__" = true)
    (k_Bands_init : PySem.W.keepIn K (.ref f_Bands_init) = true)
    (d_Bands_init : K.lookup TT_Bands_init = some ⟨oT_Bands_init, dT_Bands_init, .seq #[.none] nT_Bands_init, sT_Bands_init⟩)
    (a_Plan_rows : PySem.W.findIn K (.ref C_Plan) "rows" = some (some (.ref f_Plan_rows)))
    (i_Plan_rows : PySem.W.isFn K (.ref f_Plan_rows) = true)
    (l_Plan_rows : K.lookup f_Plan_rows = some ⟨oc_Plan_rows, od_Plan_rows, .func (PySem.W.fnOf "rows" "Plan.rows" (defArgs s_Plan_rows) (defBody s_Plan_rows) (defScope s_Plan_rows) .none kV_Plan_rows dc_Plan_rows pm_Plan_rows an_Plan_rows cd_Plan_rows ct_Plan_rows), sl_Plan_rows⟩)
    (c_Plan_rows : PySem.W.codeIn K cd_Plan_rows "Plan.rows" = true)
    (k_Plan_rows : PySem.W.keepIn K (.ref f_Plan_rows) = true)
    (a_are_prices : PySem.W.nsIn K mainGlobals "are_prices" = some (some (.ref f_are_prices)))
    (l_are_prices : K.lookup f_are_prices = some ⟨oc_are_prices, od_are_prices, .func (PySem.W.fnOf "are_prices" "are_prices" (defArgs s_are_prices) (defBody s_are_prices) (defScope s_are_prices) .none kV_are_prices dc_are_prices pm_are_prices an_are_prices cd_are_prices ct_are_prices), sl_are_prices⟩)
    (c_are_prices : PySem.W.codeIn K cd_are_prices "are_prices" = true)
    (k_are_prices : PySem.W.keepIn K (.ref f_are_prices) = true)
    (a_need_prices : PySem.W.nsIn K mainGlobals "need_prices" = some (some (.ref f_need_prices)))
    (l_need_prices : K.lookup f_need_prices = some ⟨oc_need_prices, od_need_prices, .func (PySem.W.fnOf "need_prices" "need_prices" (defArgs s_need_prices) (defBody s_need_prices) (defScope s_need_prices) .none kV_need_prices dc_need_prices pm_need_prices an_need_prices cd_need_prices ct_need_prices), sl_need_prices⟩)
    (c_need_prices : PySem.W.codeIn K cd_need_prices "need_prices" = true)
    (k_need_prices : PySem.W.keepIn K (.ref f_need_prices) = true)
    (a_Tariff_init : PySem.W.findIn K (.ref C_Tariff) "__init__" = some (some (.ref f_Tariff_init)))
    (i_Tariff_init : PySem.W.isFn K (.ref f_Tariff_init) = true)
    (l_Tariff_init : K.lookup f_Tariff_init = some ⟨oc_Tariff_init, od_Tariff_init, .func (PySem.W.fnOf "__init__" "Tariff.__init__" (defArgs s_Tariff_init) (defBody s_Tariff_init) (defScope s_Tariff_init) .none kV_Tariff_init dc_Tariff_init pm_Tariff_init an_Tariff_init cd_Tariff_init ct_Tariff_init), sl_Tariff_init⟩)
    (c_Tariff_init : PySem.W.codeIn K cd_Tariff_init "Tariff.__init__" = true)
    (k_Tariff_init : PySem.W.keepIn K (.ref f_Tariff_init) = true)
    (a__law_time : PySem.W.nsIn K mainGlobals "_law_time" = some (some (.ref f__law_time)))
    (l__law_time : K.lookup f__law_time = some ⟨oc__law_time, od__law_time, .func (PySem.W.fnOf "_law_time" "_law_time" (defArgs s__law_time) (defBody s__law_time) (defScope s__law_time) .none kV__law_time dc__law_time pm__law_time an__law_time cd__law_time ct__law_time), sl__law_time⟩)
    (c__law_time : PySem.W.codeIn K cd__law_time "_law_time" = true)
    (k__law_time : PySem.W.keepIn K (.ref f__law_time) = true)
    (a__law_account : PySem.W.nsIn K mainGlobals "_law_account" = some (some (.ref f__law_account)))
    (l__law_account : K.lookup f__law_account = some ⟨oc__law_account, od__law_account, .func (PySem.W.fnOf "_law_account" "_law_account" (defArgs s__law_account) (defBody s__law_account) (defScope s__law_account) .none kV__law_account dc__law_account pm__law_account an__law_account cd__law_account ct__law_account), sl__law_account⟩)
    (c__law_account : PySem.W.codeIn K cd__law_account "_law_account" = true)
    (k__law_account : PySem.W.keepIn K (.ref f__law_account) = true)
    (a_Plan_longest : PySem.W.findIn K (.ref C_Plan) "longest" = some (some (.ref f_Plan_longest)))
    (i_Plan_longest : PySem.W.isFn K (.ref f_Plan_longest) = true)
    (l_Plan_longest : K.lookup f_Plan_longest = some ⟨oc_Plan_longest, od_Plan_longest, .func (PySem.W.fnOf "longest" "Plan.longest" (defArgs s_Plan_longest) (defBody s_Plan_longest) (defScope s_Plan_longest) .none kV_Plan_longest dc_Plan_longest pm_Plan_longest an_Plan_longest cd_Plan_longest ct_Plan_longest), sl_Plan_longest⟩)
    (c_Plan_longest : PySem.W.codeIn K cd_Plan_longest "Plan.longest" = true)
    (k_Plan_longest : PySem.W.keepIn K (.ref f_Plan_longest) = true)
    (a_Plan_found : PySem.W.findIn K (.ref C_Plan) "found" = some (some (.ref f_Plan_found)))
    (i_Plan_found : PySem.W.isFn K (.ref f_Plan_found) = true)
    (l_Plan_found : K.lookup f_Plan_found = some ⟨oc_Plan_found, od_Plan_found, .func (PySem.W.fnOf "found" "Plan.found" (defArgs s_Plan_found) (defBody s_Plan_found) (defScope s_Plan_found) .none kV_Plan_found dc_Plan_found pm_Plan_found an_Plan_found cd_Plan_found ct_Plan_found), sl_Plan_found⟩)
    (c_Plan_found : PySem.W.codeIn K cd_Plan_found "Plan.found" = true)
    (k_Plan_found : PySem.W.keepIn K (.ref f_Plan_found) = true)
    (a_Tariff_prices_of : PySem.W.findIn K (.ref C_Tariff) "prices_of" = some (some (.ref f_Tariff_prices_of)))
    (i_Tariff_prices_of : PySem.W.isFn K (.ref f_Tariff_prices_of) = true)
    (l_Tariff_prices_of : K.lookup f_Tariff_prices_of = some ⟨oc_Tariff_prices_of, od_Tariff_prices_of, .func (PySem.W.fnOf "prices_of" "Tariff.prices_of" (defArgs s_Tariff_prices_of) (defBody s_Tariff_prices_of) (defScope s_Tariff_prices_of) .none kV_Tariff_prices_of dc_Tariff_prices_of pm_Tariff_prices_of an_Tariff_prices_of cd_Tariff_prices_of ct_Tariff_prices_of), sl_Tariff_prices_of⟩)
    (c_Tariff_prices_of : PySem.W.codeIn K cd_Tariff_prices_of "Tariff.prices_of" = true)
    (k_Tariff_prices_of : PySem.W.keepIn K (.ref f_Tariff_prices_of) = true)
    (a_need_time : PySem.W.nsIn K mainGlobals "need_time" = some (some (.ref f_need_time)))
    (l_need_time : K.lookup f_need_time = some ⟨oc_need_time, od_need_time, .func (PySem.W.fnOf "need_time" "need_time" (defArgs s_need_time) (defBody s_need_time) (defScope s_need_time) .none kV_need_time dc_need_time pm_need_time an_need_time cd_need_time ct_need_time), sl_need_time⟩)
    (c_need_time : PySem.W.codeIn K cd_need_time "need_time" = true)
    (k_need_time : PySem.W.keepIn K (.ref f_need_time) = true)
    (a_Bands_of_day : PySem.W.findIn K (.ref C_Bands) "of_day" = some (some (.ref f_Bands_of_day)))
    (i_Bands_of_day : PySem.W.isFn K (.ref f_Bands_of_day) = true)
    (l_Bands_of_day : K.lookup f_Bands_of_day = some ⟨oc_Bands_of_day, od_Bands_of_day, .func (PySem.W.fnOf "of_day" "Bands.of_day" (defArgs s_Bands_of_day) (defBody s_Bands_of_day) (defScope s_Bands_of_day) .none kV_Bands_of_day dc_Bands_of_day pm_Bands_of_day an_Bands_of_day cd_Bands_of_day ct_Bands_of_day), sl_Bands_of_day⟩)
    (c_Bands_of_day : PySem.W.codeIn K cd_Bands_of_day "Bands.of_day" = true)
    (k_Bands_of_day : PySem.W.keepIn K (.ref f_Bands_of_day) = true)
    (a_Bands_ahead_of : PySem.W.findIn K (.ref C_Bands) "ahead_of" = some (some (.ref f_Bands_ahead_of)))
    (i_Bands_ahead_of : PySem.W.isFn K (.ref f_Bands_ahead_of) = true)
    (l_Bands_ahead_of : K.lookup f_Bands_ahead_of = some ⟨oc_Bands_ahead_of, od_Bands_ahead_of, .func (PySem.W.fnOf "ahead_of" "Bands.ahead_of" (defArgs s_Bands_ahead_of) (defBody s_Bands_ahead_of) (defScope s_Bands_ahead_of) .none kV_Bands_ahead_of dc_Bands_ahead_of pm_Bands_ahead_of an_Bands_ahead_of cd_Bands_ahead_of ct_Bands_ahead_of), sl_Bands_ahead_of⟩)
    (c_Bands_ahead_of : PySem.W.codeIn K cd_Bands_ahead_of "Bands.ahead_of" = true)
    (k_Bands_ahead_of : PySem.W.keepIn K (.ref f_Bands_ahead_of) = true)
    (a_Bands_seconds : PySem.W.findIn K (.ref C_Bands) "seconds" = some (some (.ref f_Bands_seconds)))
    (i_Bands_seconds : PySem.W.isFn K (.ref f_Bands_seconds) = true)
    (l_Bands_seconds : K.lookup f_Bands_seconds = some ⟨oc_Bands_seconds, od_Bands_seconds, .func (PySem.W.fnOf "seconds" "Bands.seconds" (defArgs s_Bands_seconds) (defBody s_Bands_seconds) (defScope s_Bands_seconds) .none kV_Bands_seconds dc_Bands_seconds pm_Bands_seconds an_Bands_seconds cd_Bands_seconds ct_Bands_seconds), sl_Bands_seconds⟩)
    (c_Bands_seconds : PySem.W.codeIn K cd_Bands_seconds "Bands.seconds" = true)
    (k_Bands_seconds : PySem.W.keepIn K (.ref f_Bands_seconds) = true)
    (a_Bands_cost : PySem.W.findIn K (.ref C_Bands) "cost" = some (some (.ref f_Bands_cost)))
    (i_Bands_cost : PySem.W.isFn K (.ref f_Bands_cost) = true)
    (l_Bands_cost : K.lookup f_Bands_cost = some ⟨oc_Bands_cost, od_Bands_cost, .func (PySem.W.fnOf "cost" "Bands.cost" (defArgs s_Bands_cost) (defBody s_Bands_cost) (defScope s_Bands_cost) .none kV_Bands_cost dc_Bands_cost pm_Bands_cost an_Bands_cost cd_Bands_cost ct_Bands_cost), sl_Bands_cost⟩)
    (c_Bands_cost : PySem.W.codeIn K cd_Bands_cost "Bands.cost" = true)
    (k_Bands_cost : PySem.W.keepIn K (.ref f_Bands_cost) = true)
    (a_Tariff_price : PySem.W.findIn K (.ref C_Tariff) "price" = some (some (.ref f_Tariff_price)))
    (i_Tariff_price : PySem.W.isFn K (.ref f_Tariff_price) = true)
    (l_Tariff_price : K.lookup f_Tariff_price = some ⟨oc_Tariff_price, od_Tariff_price, .func (PySem.W.fnOf "price" "Tariff.price" (defArgs s_Tariff_price) (defBody s_Tariff_price) (defScope s_Tariff_price) .none kV_Tariff_price dc_Tariff_price pm_Tariff_price an_Tariff_price cd_Tariff_price ct_Tariff_price), sl_Tariff_price⟩)
    (c_Tariff_price : PySem.W.codeIn K cd_Tariff_price "Tariff.price" = true)
    (k_Tariff_price : PySem.W.keepIn K (.ref f_Tariff_price) = true)
    (a_bill : PySem.W.nsIn K mainGlobals "bill" = some (some (.ref f_bill)))
    (l_bill : K.lookup f_bill = some ⟨oc_bill, od_bill, .func (PySem.W.fnOf "bill" "bill" (defArgs s_bill) (defBody s_bill) (defScope s_bill) .none kV_bill dc_bill pm_bill an_bill cd_bill ct_bill), sl_bill⟩)
    (c_bill : PySem.W.codeIn K cd_bill "bill" = true)
    (k_bill : PySem.W.keepIn K (.ref f_bill) = true)
    (a_pays : PySem.W.nsIn K mainGlobals "pays" = some (some (.ref f_pays)))
    (l_pays : K.lookup f_pays = some ⟨oc_pays, od_pays, .func (PySem.W.fnOf "pays" "pays" (defArgs s_pays) (defBody s_pays) (defScope s_pays) .none kV_pays dc_pays pm_pays an_pays cd_pays ct_pays), sl_pays⟩)
    (c_pays : PySem.W.codeIn K cd_pays "pays" = true)
    (k_pays : PySem.W.keepIn K (.ref f_pays) = true)
    (a__law_bill : PySem.W.nsIn K mainGlobals "_law_bill" = some (some (.ref f__law_bill)))
    (l__law_bill : K.lookup f__law_bill = some ⟨oc__law_bill, od__law_bill, .func (PySem.W.fnOf "_law_bill" "_law_bill" (defArgs s__law_bill) (defBody s__law_bill) (defScope s__law_bill) .none kV__law_bill dc__law_bill pm__law_bill an__law_bill cd__law_bill ct__law_bill), sl__law_bill⟩)
    (c__law_bill : PySem.W.codeIn K cd__law_bill "_law_bill" = true)
    (k__law_bill : PySem.W.keepIn K (.ref f__law_bill) = true)
    (a__law_alike : PySem.W.nsIn K mainGlobals "_law_alike" = some (some (.ref f__law_alike)))
    (l__law_alike : K.lookup f__law_alike = some ⟨oc__law_alike, od__law_alike, .func (PySem.W.fnOf "_law_alike" "_law_alike" (defArgs s__law_alike) (defBody s__law_alike) (defScope s__law_alike) .none kV__law_alike dc__law_alike pm__law_alike an__law_alike cd__law_alike ct__law_alike), sl__law_alike⟩)
    (c__law_alike : PySem.W.codeIn K cd__law_alike "_law_alike" = true)
    (k__law_alike : PySem.W.keepIn K (.ref f__law_alike) = true)
    (a__law_right : PySem.W.nsIn K mainGlobals "_law_right" = some (some (.ref f__law_right)))
    (l__law_right : K.lookup f__law_right = some ⟨oc__law_right, od__law_right, .func (PySem.W.fnOf "_law_right" "_law_right" (defArgs s__law_right) (defBody s__law_right) (defScope s__law_right) .none kV__law_right dc__law_right pm__law_right an__law_right cd__law_right ct__law_right), sl__law_right⟩)
    (c__law_right : PySem.W.codeIn K cd__law_right "_law_right" = true)
    (k__law_right : PySem.W.keepIn K (.ref f__law_right) = true)
    (a_law : PySem.W.nsIn K mainGlobals "law" = some (some (.ref f_law)))
    (l_law : K.lookup f_law = some ⟨oc_law, od_law, .func (PySem.W.fnOf "law" "law" (defArgs s_law) (defBody s_law) (defScope s_law) .none kV_law dc_law pm_law an_law cd_law ct_law), sl_law⟩)
    (c_law : PySem.W.codeIn K cd_law "law" = true)
    (k_law : PySem.W.keepIn K (.ref f_law) = true)
    (b_all : PySem.W.nsIn K mainGlobals "all" = some none)
    (b_bool : PySem.W.nsIn K mainGlobals "bool" = some none)
    (b_dict : PySem.W.nsIn K mainGlobals "dict" = some none)
    (b_divmod : PySem.W.nsIn K mainGlobals "divmod" = some none)
    (b_enumerate : PySem.W.nsIn K mainGlobals "enumerate" = some none)
    (b_int : PySem.W.nsIn K mainGlobals "int" = some none)
    (b_isinstance : PySem.W.nsIn K mainGlobals "isinstance" = some none)
    (b_len : PySem.W.nsIn K mainGlobals "len" = some none)
    (b_list : PySem.W.nsIn K mainGlobals "list" = some none)
    (b_max : PySem.W.nsIn K mainGlobals "max" = some none)
    (b_min : PySem.W.nsIn K mainGlobals "min" = some none)
    (b_range : PySem.W.nsIn K mainGlobals "range" = some none)
    (b_set : PySem.W.nsIn K mainGlobals "set" = some none)
    (b_sorted : PySem.W.nsIn K mainGlobals "sorted" = some none)
    (b_str : PySem.W.nsIn K mainGlobals "str" = some none)
    (b_sum : PySem.W.nsIn K mainGlobals "sum" = some none)
    (b_tuple : PySem.W.nsIn K mainGlobals "tuple" = some none)
    (b_zip : PySem.W.nsIn K mainGlobals "zip" = some none)
    (g_BANDS : PySem.W.nsIn K mainGlobals "BANDS" = some (some (.int 10 t_BANDS)))
    (g_DAY : PySem.W.nsIn K mainGlobals "DAY" = some (some (.int 86400 t_DAY)))
    (g_FIGURES : PySem.W.nsIn K mainGlobals "FIGURES" = some (some (.str "0123456789" t_FIGURES)))
    (g_LAST_TIME : PySem.W.nsIn K mainGlobals "LAST_TIME" = some (some (.int 1000000000000000 t_LAST_TIME)))
    (g_MOST_FIGURES : PySem.W.nsIn K mainGlobals "MOST_FIGURES" = some (some (.int 15 t_MOST_FIGURES)))
    (g_MOST_PRICE : PySem.W.nsIn K mainGlobals "MOST_PRICE" = some (some (.int 1000000000 t_MOST_PRICE)))
    (g_MOST_ROWS_bands : PySem.W.nsIn K mainGlobals "MOST_ROWS_bands" = some (some (.int 24 t_MOST_ROWS_bands)))
    (g_MOST_ROWS_plans : PySem.W.nsIn K mainGlobals "MOST_ROWS_plans" = some (some (.int 200 t_MOST_ROWS_plans)))
    (g_WEEK : PySem.W.nsIn K mainGlobals "WEEK" = some (some (.int 7 t_WEEK)))
    : ∃ fd : FuncData, (∀ (s : Shared) (v : Value), BindsTo s fd ⟨[v], []⟩ [("_law_script", v)]) ∧ ∀ base : Heap, K.In base → base.Ns mainGlobals mg → FnOk l.prog w K mg base (L2.CX l.prog w) 9 fa fd ["_law_script"] (spLaw K) := by
  have e := hfa.symm.trans (PySem.W.mg_of X G a_law)
  cases e
  let ct : Tb := ⟨fun n => match n with | 7 => C_Bands | 8 => C_Plan | 9 => C_Tariff | 4 => C_NoBands | 1 => C_NoFigures | 5 => C_NoPrices | 3 => C_NoTime | 2 => C_TooMany | _ => 0, flds, by decide +kernel⟩
  have T : Txt K mg ct := {
    hf := rfl,
    b_all := PySem.W.mg_none_of X G b_all,
    b_bool := PySem.W.mg_none_of X G b_bool,
    b_dict := PySem.W.mg_none_of X G b_dict,
    b_divmod := PySem.W.mg_none_of X G b_divmod,
    b_enumerate := PySem.W.mg_none_of X G b_enumerate,
    b_int := PySem.W.mg_none_of X G b_int,
    b_isinstance := PySem.W.mg_none_of X G b_isinstance,
    b_len := PySem.W.mg_none_of X G b_len,
    b_list := PySem.W.mg_none_of X G b_list,
    b_max := PySem.W.mg_none_of X G b_max,
    b_min := PySem.W.mg_none_of X G b_min,
    b_range := PySem.W.mg_none_of X G b_range,
    b_set := PySem.W.mg_none_of X G b_set,
    b_sorted := PySem.W.mg_none_of X G b_sorted,
    b_str := PySem.W.mg_none_of X G b_str,
    b_sum := PySem.W.mg_none_of X G b_sum,
    b_tuple := PySem.W.mg_none_of X G b_tuple,
    b_zip := PySem.W.mg_none_of X G b_zip,
    g_BANDS := gv_int (PySem.W.mg_of X G g_BANDS),
    g_DAY := gv_int (PySem.W.mg_of X G g_DAY),
    g_FIGURES := gv_str (PySem.W.mg_of X G g_FIGURES),
    g_LAST_TIME := gv_int (PySem.W.mg_of X G g_LAST_TIME),
    g_MOST_FIGURES := gv_int (PySem.W.mg_of X G g_MOST_FIGURES),
    g_MOST_PRICE := gv_int (PySem.W.mg_of X G g_MOST_PRICE),
    g_MOST_ROWS_bands := gv_int (PySem.W.mg_of X G g_MOST_ROWS_bands),
    g_MOST_ROWS_plans := gv_int (PySem.W.mg_of X G g_MOST_ROWS_plans),
    g_WEEK := gv_int (PySem.W.mg_of X G g_WEEK),
    x_NoBands := ⟨xq_NoBands, PySem.W.mg_of X G a_NoBands, xk_NoBands, xb_NoBands, xt_NoBands⟩,
    x_NoFigures := ⟨xq_NoFigures, PySem.W.mg_of X G a_NoFigures, xk_NoFigures, xb_NoFigures, xt_NoFigures⟩,
    x_NoPrices := ⟨xq_NoPrices, PySem.W.mg_of X G a_NoPrices, xk_NoPrices, xb_NoPrices, xt_NoPrices⟩,
    x_NoTime := ⟨xq_NoTime, PySem.W.mg_of X G a_NoTime, xk_NoTime, xb_NoTime, xt_NoTime⟩,
    x_TooMany := ⟨xq_TooMany, PySem.W.mg_of X G a_TooMany, xk_TooMany, xb_TooMany, xt_TooMany⟩,
    na_7_1 := na_7_1,
    na_7_2 := na_7_2,
    na_7_3 := na_7_3,
    na_7_4 := na_7_4,
    na_8_5 := na_8_5,
    na_8_6 := na_8_6,
    na_9_7 := na_9_7,
    na_9_8 := na_9_8,
    f__law_mixed := ff_all (funA_mk (st := s__law_mixed) l__law_mixed c__law_mixed k__law_mixed) (PySem.W.mg_of X G a__law_mixed) (fun us hl => match us, hl with | [_, _], _ => rfl),
    f__law_cell_at := ff_all (funA_mk (st := s__law_cell_at) l__law_cell_at c__law_cell_at k__law_cell_at) (PySem.W.mg_of X G a__law_cell_at) (fun us hl => match us, hl with | [_, _], _ => rfl),
    f__law_figures := ff_all (funA_mk (st := s__law_figures) l__law_figures c__law_figures k__law_figures) (PySem.W.mg_of X G a__law_figures) (fun us hl => match us, hl with | [_, _], _ => rfl),
    f__law_prices := ff_all (funA_mk (st := s__law_prices) l__law_prices c__law_prices k__law_prices) (PySem.W.mg_of X G a__law_prices) (fun us hl => match us, hl with | [_], _ => rfl),
    f__law_price_rows := ff_all (funA_mk (st := s__law_price_rows) l__law_price_rows c__law_price_rows k__law_price_rows) (PySem.W.mg_of X G a__law_price_rows) (fun us hl => match us, hl with | [_], _ => rfl),
    f_is_figures := ff_all (funA_mk (st := s_is_figures) l_is_figures c_is_figures k_is_figures) (PySem.W.mg_of X G a_is_figures) (fun us hl => match us, hl with | [_], _ => rfl),
    f_Plan_init := if_all (funA_mk (st := s_Plan_init) l_Plan_init c_Plan_init k_Plan_init) (PySem.W.mg_of X G a_Plan) ⟨pg_Plan, hd_Plan, po_Plan, sa_Plan⟩ ⟨mk_Plan, a_Plan_init, i_Plan_init, kc_Plan⟩ (fun us hl => match us, hl with | [_, _], _ => rfl),
    f__law_low := ff_all (funA_mk (st := s__law_low) l__law_low c__law_low k__law_low) (PySem.W.mg_of X G a__law_low) (fun us hl => match us, hl with | [_], _ => rfl),
    f__law_rows := ff_all (funA_mk (st := s__law_rows) l__law_rows c__law_rows k__law_rows) (PySem.W.mg_of X G a__law_rows) (fun us hl => match us, hl with | [_], _ => rfl),
    f_is_between := ff_all (funA_mk (st := s_is_between) l_is_between c_is_between k_is_between) (PySem.W.mg_of X G a_is_between) (fun us hl => match us, hl with | [_, _, _], _ => rfl),
    f_are_days := ff_all (funA_mk (st := s_are_days) l_are_days c_are_days k_are_days) (PySem.W.mg_of X G a_are_days) (fun us hl => match us, hl with | [_], _ => rfl),
    f_is_row := ff_all (funA_mk (st := s_is_row) l_is_row c_is_row k_is_row) (PySem.W.mg_of X G a_is_row) (fun us hl => match us, hl with | [_], _ => rfl),
    f_are_rows := ff_all (funA_mk (st := s_are_rows) l_are_rows c_are_rows k_are_rows) (PySem.W.mg_of X G a_are_rows) (fun us hl => match us, hl with | [_], _ => rfl),
    f_Bands_init := if_dfl (dvs := []) (funA_mk (st := s_Bands_init) l_Bands_init c_Bands_init k_Bands_init) (PySem.W.mg_of X G a_Bands) ⟨pg_Bands, hd_Bands, po_Bands, sa_Bands⟩ ⟨mk_Bands, a_Bands_init, i_Bands_init, kc_Bands⟩ (binds_dfl (ds := []) d_Bands_init rfl fun us hl => match us, hl with | [_, _, _], _ => ⟨_, rfl, rfl⟩) .nil (fun _ _ => .nil),
    f_Plan_rows := mf_all (funA_mk (st := s_Plan_rows) l_Plan_rows c_Plan_rows k_Plan_rows) ⟨a_Plan_rows, i_Plan_rows, k_Plan_rows⟩ (fun us hl => match us, hl with | [_], _ => rfl),
    f_are_prices := ff_all (funA_mk (st := s_are_prices) l_are_prices c_are_prices k_are_prices) (PySem.W.mg_of X G a_are_prices) (fun us hl => match us, hl with | [_], _ => rfl),
    f_need_prices := ff_all (funA_mk (st := s_need_prices) l_need_prices c_need_prices k_need_prices) (PySem.W.mg_of X G a_need_prices) (fun us hl => match us, hl with | [_], _ => rfl),
    f_Tariff_init := if_all (funA_mk (st := s_Tariff_init) l_Tariff_init c_Tariff_init k_Tariff_init) (PySem.W.mg_of X G a_Tariff) ⟨pg_Tariff, hd_Tariff, po_Tariff, sa_Tariff⟩ ⟨mk_Tariff, a_Tariff_init, i_Tariff_init, kc_Tariff⟩ (fun us hl => match us, hl with | [_, _, _], _ => rfl),
    f__law_time := ff_all (funA_mk (st := s__law_time) l__law_time c__law_time k__law_time) (PySem.W.mg_of X G a__law_time) (fun us hl => match us, hl with | [_], _ => rfl),
    f__law_account := ff_all (funA_mk (st := s__law_account) l__law_account c__law_account k__law_account) (PySem.W.mg_of X G a__law_account) (fun us hl => match us, hl with | [_], _ => rfl),
    f_Plan_longest := mf_all (funA_mk (st := s_Plan_longest) l_Plan_longest c_Plan_longest k_Plan_longest) ⟨a_Plan_longest, i_Plan_longest, k_Plan_longest⟩ (fun us hl => match us, hl with | [_, _], _ => rfl),
    f_Plan_found := mf_all (funA_mk (st := s_Plan_found) l_Plan_found c_Plan_found k_Plan_found) ⟨a_Plan_found, i_Plan_found, k_Plan_found⟩ (fun us hl => match us, hl with | [_, _], _ => rfl),
    f_Tariff_prices_of := mf_all (funA_mk (st := s_Tariff_prices_of) l_Tariff_prices_of c_Tariff_prices_of k_Tariff_prices_of) ⟨a_Tariff_prices_of, i_Tariff_prices_of, k_Tariff_prices_of⟩ (fun us hl => match us, hl with | [_, _], _ => rfl),
    f_need_time := ff_all (funA_mk (st := s_need_time) l_need_time c_need_time k_need_time) (PySem.W.mg_of X G a_need_time) (fun us hl => match us, hl with | [_], _ => rfl),
    f_Bands_of_day := mf_all (funA_mk (st := s_Bands_of_day) l_Bands_of_day c_Bands_of_day k_Bands_of_day) ⟨a_Bands_of_day, i_Bands_of_day, k_Bands_of_day⟩ (fun us hl => match us, hl with | [_, _, _], _ => rfl),
    f_Bands_ahead_of := mf_all (funA_mk (st := s_Bands_ahead_of) l_Bands_ahead_of c_Bands_ahead_of k_Bands_ahead_of) ⟨a_Bands_ahead_of, i_Bands_ahead_of, k_Bands_ahead_of⟩ (fun us hl => match us, hl with | [_, _], _ => rfl),
    f_Bands_seconds := mf_all (funA_mk (st := s_Bands_seconds) l_Bands_seconds c_Bands_seconds k_Bands_seconds) ⟨a_Bands_seconds, i_Bands_seconds, k_Bands_seconds⟩ (fun us hl => match us, hl with | [_, _, _], _ => rfl),
    f_Bands_cost := mf_all (funA_mk (st := s_Bands_cost) l_Bands_cost c_Bands_cost k_Bands_cost) ⟨a_Bands_cost, i_Bands_cost, k_Bands_cost⟩ (fun us hl => match us, hl with | [_, _, _, _], _ => rfl),
    f_Tariff_price := mf_all (funA_mk (st := s_Tariff_price) l_Tariff_price c_Tariff_price k_Tariff_price) ⟨a_Tariff_price, i_Tariff_price, k_Tariff_price⟩ (fun us hl => match us, hl with | [_, _], _ => rfl),
    f_bill := ff_all (funA_mk (st := s_bill) l_bill c_bill k_bill) (PySem.W.mg_of X G a_bill) (fun us hl => match us, hl with | [_, _, _], _ => rfl),
    f_pays := ff_all (funA_mk (st := s_pays) l_pays c_pays k_pays) (PySem.W.mg_of X G a_pays) (fun us hl => match us, hl with | [_, _], _ => rfl),
    f__law_bill := ff_all (funA_mk (st := s__law_bill) l__law_bill c__law_bill k__law_bill) (PySem.W.mg_of X G a__law_bill) (fun us hl => match us, hl with | [_, _, _], _ => rfl),
    f__law_alike := ff_all (funA_mk (st := s__law_alike) l__law_alike c__law_alike k__law_alike) (PySem.W.mg_of X G a__law_alike) (fun us hl => match us, hl with | [_, _], _ => rfl),
    f__law_right := ff_all (funA_mk (st := s__law_right) l__law_right c__law_right k__law_right) (PySem.W.mg_of X G a__law_right) (fun us hl => match us, hl with | [_, _], _ => rfl),
    f_law := ff_all (funA_mk (st := s_law) l_law c_law k_law) (PySem.W.mg_of X G a_law) (fun us hl => match us, hl with | [_], _ => rfl) }
  refine ⟨PySem.W.fnOf "law" "law" (defArgs s_law) (defBody s_law) (defScope s_law) .none kV_law dc_law pm_law an_law cd_law ct_law, fun s v => .of_eq rfl, fun base _ _ => law_ok (ct := ct) L ?_⟩
  exact (fn_okA (k := 8) (m := b_law) (funA_mk (st := s_law) l_law c_law k_law) sc_law (L1_law_body T) :)
theorem walk {l : PySem.W.OpenLaw} {q : Program} {loose : List Str} {XP : (Str → Option Value) → Heap → Prop} {YP : World → Heap → Prop} {d : DefRec} {K : Params → PySem.W.Frag} (hn : l.most = some 63) (hdf : d.params.defaults = [])
    (hY : ∀ (w : World) (h : Heap), YP w h → (K w.params).In h)
    (F : ∀ (w : World) (mg : Str → Option Value) (fa : Addr) (h : Heap), (K w.params).In h → h.Ns mainGlobals mg → mg d.name = some (.ref fa) →
      ∃ fd : FuncData, (∀ (s : Shared) (u : Value), BindsTo s fd ⟨[u], []⟩ [("_law_script", u)]) ∧ ∀ base : Heap, (K w.params).In base → base.Ns mainGlobals mg → FnOk l.prog w (K w.params) mg base (L2.CX l.prog w) 9 fa fd ["_law_script"] (spLaw (K w.params))) :
    PySem.W.WalkO q loose XP YP l.row.toRowW d [] (fun f vs => PySem.call f vs) :=
  L2.walk_ofB (n := 63) (k := 9) (x := "_law_script") (CX := fun w => L2.CX l.prog w) (sp := fun w => spLaw (K w.params)) hn (by decide) hdf ⟨rfl, by decide, by decide⟩ hY F (fun _ _ a ns hl hb _ hS => ⟨a, ns, rfl, hS, hl, hb, fun v hv _ => hv⟩) cx_no
end Gk84
/-! Level 2 of law_k84_bills. -/
namespace Gk84
open PySem L2 Mi
/-! ### drawing -/
def mix (c k : Int) : Int := ((c + 7919 * k) * 48271 % 2147483647) * ((c + 7919 * k) * 48271 % 2147483647 + 2 * k + 1) % 2147483629
def Ce (c : Int) : Prop := 0 ≤ c ∧ c < 2147483629
theorem mix_ce (c k : Int) : Ce (mix c k) := ⟨Int.emod_nonneg _ (by decide), Int.emod_lt_of_pos _ (by decide)⟩
theorem ev_mixed {c k : Int} (S : Sto) (hc : c.natAbs.log2 < 2000000) (hk : 0 ≤ k ∧ k < 2 ^ 60) : m__law_mixed [.int c, .int k] S = .ok (.int (mix c k)) S := by
  refine trim_pure (J := []) ?_ rfl
  have h1 : Sm (7919 : Int) := sm_of (by decide)
  have h2 : Sm k := sm_of (by omega)
  have h3 : Sm (c + 7919 * k) := by
    unfold Sm
    have : (7919 * k).natAbs.log2 < 2000000 := Nat.lt_of_le_of_lt (log2_le_of (k := 128) (by omega)) (by decide)
    exact Nat.lt_trans (Nat.lt_of_le_of_lt (log2_mono (Int.natAbs_add_le _ _)) (log2_add hc this)) (by decide)
  have h4 : Sm (48271 : Int) := sm_of (by decide)
  have h5 : Sm (2 : Int) := sm_of (by decide)
  have h6 : Sm ((c + 7919 * k) * 48271 % 2147483647) := sm_of (by omega)
  have h7 : Sm ((c + 7919 * k) * 48271 % 2147483647 + 2 * k + 1) := sm_of (by omega)
  simp [b__law_mixed, a_runB, a_sSeq, a_sAsg, a_sRet, a_sRetN, a_sExp, a_sIf, a_sNil, a_sRaise, a_sFor, a_mBin, a_mUn, a_mVar, a_mC, opt, a_mNil, a_mCons, a_mOpN, asB, a_mTest, a_mAnd, a_mOr, a_mNot, a_mAndV, a_mOrV, a_mNotV, a_mIf, a_mChain, a_mTup, a_mFrz, a_mNew, a_lDis, a_mCall, a_mMeth, a_mIsi, a_mFld, tyD, isB, a_mPart, a_mNoPart, Rs.bind, Rs.then, RSt.seq, asgn, asSeq, asT, asL, asI, setAll, dAdd_int, dSub_int, dLt_int, dLe_int, dGt_int, dGe_int, dNeg_int, dEq_int, dNe_int, dEq_bl, dNe_bl, dIsN_non, dIsN_int, dIsN_str, dIsN_lst, dIsN_tup, sizeLine_v, dMulI_sm, dMod_pos, h1, h2, h3, h4, h5, h6, h7, mix]
theorem ce_log {c : Int} (h : Ce c) : c.natAbs.log2 < 2000000 := Nat.lt_of_le_of_lt (log2_le_of (k := 64) (by unfold Ce at h; omega)) (by decide)
theorem ev_mx {c k : Int} (S : Sto) (hc : Ce c) (hk : 0 ≤ k ∧ k < 2 ^ 60) : m__law_mixed [.int c, .int k] S = .ok (.int (mix c k)) S := ev_mixed S (ce_log hc) hk
theorem ev_cell_at {ns : List Int} (hb : ∀ z ∈ ns, z.natAbs.log2 < 1048576) : ∃ c, Ce c ∧ ∀ S, m__law_cell_at [.lst (ns.map .int), .int 0] S = .ok (.int c) S := by
  cases ns with
  | nil =>
    refine ⟨0, ⟨by decide, by decide⟩, fun S => ?_⟩
    refine trim_pure (J := []) ?_ rfl
    simp [b__law_cell_at, a_runB, a_sSeq, a_sAsg, a_sRet, a_sRetN, a_sExp, a_sIf, a_sNil, a_sRaise, a_sFor, a_mBin, a_mUn, a_mVar, a_mC, opt, a_mNil, a_mCons, a_mOpN, asB, a_mTest, a_mAnd, a_mOr, a_mNot, a_mAndV, a_mOrV, a_mNotV, a_mIf, a_mChain, a_mTup, a_mFrz, a_mNew, a_lDis, a_mCall, a_mMeth, a_mIsi, a_mFld, tyD, isB, a_mPart, a_mNoPart, Rs.bind, Rs.then, RSt.seq, asgn, asSeq, asT, asL, asI, setAll, dAdd_int, dSub_int, dLt_int, dLe_int, dGt_int, dGe_int, dNeg_int, dEq_int, dNe_int, dEq_bl, dNe_bl, dIsN_non, dIsN_int, dIsN_str, dIsN_lst, dIsN_tup, sizeLine_v, oLen]
  | cons n ns =>
    refine ⟨mix n 0, mix_ce _ _, fun S => ?_⟩
    refine trim_pure (J := []) ?_ rfl
    have e := ev_mixed (k := 0) S (Nat.lt_trans (hb n List.mem_cons_self) (by decide)) (by decide)
    have e2 : (0 : Int) < (ns.length : Int) + 1 := by omega
    have e3 : dIx (.lst (.int n :: ns.map .int)) (.int 0) S = some (.int n) := by
      simp [dIx, dGet, asK, asKT, asSeq, asT, asL, atI, ixN, e2]
    simp [b__law_cell_at, a_runB, a_sSeq, a_sAsg, a_sRet, a_sRetN, a_sExp, a_sIf, a_sNil, a_sRaise, a_sFor, a_mBin, a_mUn, a_mVar, a_mC, opt, a_mNil, a_mCons, a_mOpN, asB, a_mTest, a_mAnd, a_mOr, a_mNot, a_mAndV, a_mOrV, a_mNotV, a_mIf, a_mChain, a_mTup, a_mFrz, a_mNew, a_lDis, a_mCall, a_mMeth, a_mIsi, a_mFld, tyD, isB, a_mPart, a_mNoPart, Rs.bind, Rs.then, RSt.seq, asgn, asSeq, asT, asL, asI, setAll, dAdd_int, dSub_int, dLt_int, dLe_int, dGt_int, dGe_int, dNeg_int, dEq_int, dNe_int, dEq_bl, dNe_bl, dIsN_non, dIsN_int, dIsN_str, dIsN_lst, dIsN_tup, sizeLine_v, oLen, e, e2, e3]
theorem sum_ones {α : Type} (xs : List α) : (xs.map fun _ => 1).sum = xs.length := by
  induction xs with
  | nil => rfl
  | cons x xs ih => rw [List.map_cons, List.sum_cons, ih, List.length_cons, Nat.add_comm]
def chs (c : Int) (k : Nat) : Nat := 48 + (mix c (230 + k) % 4).toNat
def figs (c most : Int) : Str := ⟨((List.range (1 + mix c 229 % most).toNat).map (chs c)).toArray⟩
theorem ix4 {j : Int} (S : Sto) (h : 0 ≤ j ∧ j < 4) : dIx (.str "0123") (.int j) S = some (.str ⟨#[48 + j.toNat]⟩) := by
  have : j = 0 ∨ j = 1 ∨ j = 2 ∨ j = 3 := by omega
  rcases this with rfl | rfl | rfl | rfl <;> rfl
theorem ev_figures {c most : Int} (S : Sto) (hc : Ce c) (hm : 1 ≤ most ∧ most ≤ 16) : m__law_figures [.int c, .int most] S = .ok (.str (figs c most)) S := by
  refine trim_pure (J := []) ?_ rfl
  have e1 := ev_mx (k := 229) S hc (by decide)
  have l1 : 0 ≤ mix c 229 % most := Int.emod_nonneg _ (by omega)
  have l2 : mix c 229 % most < most := Int.emod_lt_of_pos _ (by omega)
  have e2 : lComp (iRange1 (mCons (mBin dAdd (mC (.int 1)) (mBin dMod (mCall m__law_mixed [] (mCons (mVar 0) (mCons (mC (.int 229)) (mNil)))) (mVar 1))) (mNil))) (.nm 2) (mYes) (mBin dIx (mC (.str "0123")) (mBin dMod (mCall m__law_mixed [] (mCons (mVar 0) (mCons (mBin dAdd (mC (.int 230)) (mVar 2)) (mNil)))) (mC (.int 4)))) [2] [some (.int c), some (.int most), none] S = .ok ((List.range (1 + mix c 229 % most).toNat).map fun k => D.str ⟨#[chs c k]⟩) S := by
    refine lComp_map (List.range (1 + mix c 229 % most).toNat) (fun (k : Nat) => D.int (k : Int)) _ (iRange1_ok (j := 1 + mix c 229 % most) ?_ (by omega)) rfl rfl (by simp [sizeLine_v]; omega) fun k hk => ⟨_, rfl, ?_⟩
    · simp [a_runB, a_sSeq, a_sAsg, a_sRet, a_sRetN, a_sExp, a_sIf, a_sNil, a_sRaise, a_sFor, a_mBin, a_mUn, a_mVar, a_mC, opt, a_mNil, a_mCons, a_mOpN, asB, a_mTest, a_mAnd, a_mOr, a_mNot, a_mAndV, a_mOrV, a_mNotV, a_mIf, a_mChain, a_mTup, a_mFrz, a_mNew, a_lDis, a_mCall, a_mMeth, a_mIsi, a_mFld, tyD, isB, a_mPart, a_mNoPart, Rs.bind, Rs.then, RSt.seq, asgn, asSeq, asT, asL, asI, setAll, dAdd_int, dSub_int, dLt_int, dLe_int, dGt_int, dGe_int, dNeg_int, dEq_int, dNe_int, dEq_bl, dNe_bl, dIsN_non, dIsN_int, dIsN_str, dIsN_lst, dIsN_tup, sizeLine_v, e1, dMod_pos, show 0 < most by omega]
    · have hk2 : k < (1 + mix c 229 % most).toNat := List.mem_range.mp hk
      have e3 := ev_mx (k := 230 + (k : Int)) S hc (by omega)
      have e4 := ix4 (j := mix c (230 + (k : Int)) % 4) S (by omega)
      simp [a_runB, a_sSeq, a_sAsg, a_sRet, a_sRetN, a_sExp, a_sIf, a_sNil, a_sRaise, a_sFor, a_mBin, a_mUn, a_mVar, a_mC, opt, a_mNil, a_mCons, a_mOpN, asB, a_mTest, a_mAnd, a_mOr, a_mNot, a_mAndV, a_mOrV, a_mNotV, a_mIf, a_mChain, a_mTup, a_mFrz, a_mNew, a_lDis, a_mCall, a_mMeth, a_mIsi, a_mFld, tyD, isB, a_mPart, a_mNoPart, Rs.bind, Rs.then, RSt.seq, asgn, asSeq, asT, asL, asI, setAll, dAdd_int, dSub_int, dLt_int, dLe_int, dGt_int, dGe_int, dNeg_int, dEq_int, dNe_int, dEq_bl, dNe_bl, dIsN_non, dIsN_int, dIsN_str, dIsN_lst, dIsN_tup, sizeLine_v, wipeD, e3, dMod_pos, e4, chs]
  have e5 : mJoin (mC (.str "")) (mCons (mFrz (lComp (iRange1 (mCons (mBin dAdd (mC (.int 1)) (mBin dMod (mCall m__law_mixed [] (mCons (mVar 0) (mCons (mC (.int 229)) (mNil)))) (mVar 1))) (mNil))) (.nm 2) (mYes) (mBin dIx (mC (.str "0123")) (mBin dMod (mCall m__law_mixed [] (mCons (mVar 0) (mCons (mBin dAdd (mC (.int 230)) (mVar 2)) (mNil)))) (mC (.int 4)))) [2])) (mNil)) [some (.int c), some (.int most), none] S = .ok (.str (figs c most)) S := by
    have j := join_flat ((List.range (1 + mix c 229 % most).toNat).map (chs c))
    rw [List.map_map] at j
    simp only [mJoin, a_runB, a_sSeq, a_sAsg, a_sRet, a_sRetN, a_sExp, a_sIf, a_sNil, a_sRaise, a_sFor, a_mBin, a_mUn, a_mVar, a_mC, opt, a_mNil, a_mCons, a_mOpN, asB, a_mTest, a_mAnd, a_mOr, a_mNot, a_mAndV, a_mOrV, a_mNotV, a_mIf, a_mChain, a_mTup, a_mFrz, a_mNew, a_lDis, a_mCall, a_mMeth, a_mIsi, a_mFld, tyD, isB, a_mPart, a_mNoPart, Rs.bind, Rs.then, RSt.seq, asgn, asSeq, asT, asL, asI, setAll, dAdd_int, dSub_int, dLt_int, dLe_int, dGt_int, dGe_int, dNeg_int, dEq_int, dNe_int, dEq_bl, dNe_bl, dIsN_non, dIsN_int, dIsN_str, dIsN_lst, dIsN_tup, sizeLine_v, e2]
    rw [asStrs_mapf]
    dsimp only
    have z : ((List.map (fun k => (⟨#[chs c k]⟩ : Str)) (List.range (1 + mix c 229 % most).toNat)).map (·.length)).sum = (1 + mix c 229 % most).toNat := by
      rw [List.map_map]
      have : ((fun x => x.length) ∘ fun k => (⟨#[chs c k]⟩ : Str)) = fun _ => 1 := rfl
      rw [this, sum_ones, List.length_range]
    have z0 : (Str.ofString "").length = 0 := rfl
    rw [if_pos (by rw [z, z0]; omega)]
    show Rs.ok (D.str (Txt.join _ (List.map ((fun c => (⟨#[c]⟩ : Str)) ∘ chs c) _))) S = _
    rw [j]
    rfl
  rw [a_runB]
  simp [b__law_figures, a_runB, a_sSeq, a_sAsg, a_sRet, a_sRetN, a_sExp, a_sIf, a_sNil, a_sRaise, a_sFor, a_mBin, a_mUn, a_mVar, a_mC, opt, a_mNil, a_mCons, a_mOpN, asB, a_mTest, a_mAnd, a_mOr, a_mNot, a_mAndV, a_mOrV, a_mNotV, a_mIf, a_mChain, a_mTup, a_mFrz, a_mNew, a_lDis, a_mCall, a_mMeth, a_mIsi, a_mFld, tyD, isB, a_mPart, a_mNoPart, Rs.bind, Rs.then, RSt.seq, asgn, asSeq, asT, asL, asI, setAll, dAdd_int, dSub_int, dLt_int, dLe_int, dGt_int, dGe_int, dNeg_int, dEq_int, dNe_int, dEq_bl, dNe_bl, dIsN_non, dIsN_int, dIsN_str, dIsN_lst, dIsN_tup, sizeLine_v, e5]
/-! ### the drawn tariff -/
def pmost (c : Int) : Int := if mix c 160 % 3 = 0 then 10 else if mix c 160 % 3 = 1 then 1000 else 1000000000
def pr (c : Int) (k : Nat) : Int := if mix c (161 + k) % (pmost c + pmost c / 4) < pmost c then mix c (161 + k) % (pmost c + pmost c / 4) else pmost c
def prs (c : Int) : List Int := (List.range 10).map (pr c)
theorem pmost_ok (c : Int) : pmost c = 10 ∨ pmost c = 1000 ∨ pmost c = 1000000000 := by
  unfold pmost
  split
  · exact .inl rfl
  · split
    · exact .inr (.inl rfl)
    · exact .inr (.inr rfl)
theorem prs_ok {c p : Int} (h : p ∈ prs c) : 0 ≤ p ∧ p ≤ 1000000000 := by
  unfold prs at h
  obtain ⟨k, _, rfl⟩ := List.mem_map.mp h
  unfold pr
  have hm : 0 < pmost c + pmost c / 4 := by rcases pmost_ok c with e | e | e <;> rw [e] <;> decide
  have := Int.emod_nonneg (mix c (161 + (k : Int))) (show pmost c + pmost c / 4 ≠ 0 by omega)
  rcases pmost_ok c with e | e | e <;> rw [e] at this ⊢ <;> split <;> omega
theorem ev_prices {c : Int} (S : Sto) (hc : Ce c) : m__law_prices [.int c] S = .ok (.lst ((prs c).map .int)) S := by
  refine gv_trim rfl ?_ (by unfold noRef; generalize prs c = l; induction l with | nil => rfl | cons x l ih => unfold List.map noRefs; rw [ih]; rfl)
  have e1 := ev_mx (k := 160) S hc (by decide)
  have l1 : 0 ≤ mix c 160 % 3 := Int.emod_nonneg _ (by omega)
  have l2 : mix c 160 % 3 < 3 := Int.emod_lt_of_pos _ (by omega)
  have e2 : dIx (.lst [.int 10, .int 1000, .int 1000000000]) (.int (mix c 160 % 3)) S = some (.int (pmost c)) := by
    have h : mix c 160 % 3 = 0 ∨ mix c 160 % 3 = 1 ∨ mix c 160 % 3 = 2 := by omega
    unfold pmost
    rcases h with h | h | h <;> rw [h] <;> rfl
  have e0 : dPow (.int 10) (.int 9) S = some (.int 1000000000) := by rw [dPow_small (by decide)]; rfl
  refine gv_nx (en1 := [some (.int c), some (.int (pmost c)), none]) (S1 := S) ?_ ?_
  · simp [a_runB, a_sSeq, a_sAsg, a_sRet, a_sRetN, a_sExp, a_sIf, a_sNil, a_sRaise, a_sFor, a_mBin, a_mUn, a_mVar, a_mC, opt, a_mNil, a_mCons, a_mOpN, asB, a_mTest, a_mAnd, a_mOr, a_mNot, a_mAndV, a_mOrV, a_mNotV, a_mIf, a_mChain, a_mTup, a_mFrz, a_mNew, a_lDis, a_mCall, a_mMeth, a_mIsi, a_mFld, tyD, isB, a_mPart, a_mNoPart, Rs.bind, Rs.then, RSt.seq, asgn, asSeq, asT, asL, asI, setAll, dAdd_int, dSub_int, dLt_int, dLe_int, dGt_int, dGe_int, dNeg_int, dEq_int, dNe_int, dEq_bl, dNe_bl, dIsN_non, dIsN_int, dIsN_str, dIsN_lst, dIsN_tup, sizeLine_v, e1, dMod_pos, e0, e2]
  · refine gv_ret (J := []) ?_
    rw [a_mFrz, lComp_map (List.range 10) (fun (k : Nat) => D.int (k : Int)) (fun k => D.int (pr c k)) (iRange1_ok (j := 10) rfl (by decide)) rfl rfl (by decide) fun k hk => ⟨_, rfl, ?_⟩]
    · simp [Rs.bind, prs]
    · have hk2 : k < 10 := List.mem_range.mp hk
      have e3 := ev_mx (k := 161 + (k : Int)) S hc (by omega)
      have hm : 0 < pmost c + pmost c / 4 := by rcases pmost_ok c with e | e | e <;> rw [e] <;> decide
      simp [a_runB, a_sSeq, a_sAsg, a_sRet, a_sRetN, a_sExp, a_sIf, a_sNil, a_sRaise, a_sFor, a_mBin, a_mUn, a_mVar, a_mC, opt, a_mNil, a_mCons, a_mOpN, asB, a_mTest, a_mAnd, a_mOr, a_mNot, a_mAndV, a_mOrV, a_mNotV, a_mIf, a_mChain, a_mTup, a_mFrz, a_mNew, a_lDis, a_mCall, a_mMeth, a_mIsi, a_mFld, tyD, isB, a_mPart, a_mNoPart, Rs.bind, Rs.then, RSt.seq, asgn, asSeq, asT, asL, asI, setAll, dAdd_int, dSub_int, dLt_int, dLe_int, dGt_int, dGe_int, dNeg_int, dEq_int, dNe_int, dEq_bl, dNe_bl, dIsN_non, dIsN_int, dIsN_str, dIsN_lst, dIsN_tup, sizeLine_v, wipeD, e3, dMod_pos, dFDiv_pos, hm, oMin2, pr]
def lows (c : Int) : List Int := ((List.range 7).filter fun (k : Nat) => decide (mix c (120 + (k : Int)) % 3 = 0)).map fun (k : Nat) => (k : Int)
def low (c : Int) : Option (List Int) := if mix c 12 % 4 = 0 then none else if mix c 12 % 4 = 1 then some [] else if mix c 12 % 4 = 2 then some (lows c) else some (lows c).reverse
def lowD (c : Int) : D := match low c with
  | none => .non
  | some l => .lst (l.map .int)
theorem noRefs_ints (l : List Int) : noRefs (l.map .int) = true := by
  induction l with
  | nil => rfl
  | cons x l ih => unfold List.map noRefs; rw [ih]; rfl
theorem ev_low {c : Int} (S : Sto) (hc : Ce c) : m__law_low [.int c] S = .ok (lowD c) S := by
  refine gv_trim rfl ?_ (by unfold lowD; cases low c with | none => rfl | some l => exact noRefs_ints l)
  have e1 := ev_mx (k := 12) S hc (by decide)
  have l1 : 0 ≤ mix c 12 % 4 := Int.emod_nonneg _ (by omega)
  have l2 : mix c 12 % 4 < 4 := Int.emod_lt_of_pos _ (by omega)
  have e2 : dIx (.lst [.non, .lst [], .lst ((lows c).map .int), .lst ((lows c).map .int).reverse]) (.int (mix c 12 % 4)) S = some (lowD c) := by
    have h : mix c 12 % 4 = 0 ∨ mix c 12 % 4 = 1 ∨ mix c 12 % 4 = 2 ∨ mix c 12 % 4 = 3 := by omega
    unfold lowD low
    rcases h with h | h | h | h <;> rw [h] <;> first | rfl | (rw [← List.map_reverse]; rfl)
  refine gv_nx (en1 := [some (.int c), some (.lst ((lows c).map .int)), none]) (S1 := S) ?_ ?_
  · rw [a_sAsg, a_mFrz, lComp_fil (List.range 7) (fun (k : Nat) => D.int (k : Int)) (fun k => decide (mix c (120 + (k : Int)) % 3 = 0)) (fun (k : Nat) => D.int (k : Int)) (iRange1_ok (j := 7) rfl (by decide)) rfl rfl (by decide) fun k hk => ⟨_, rfl, ?_, fun _ => ?_⟩]
    · simp [Rs.bind, Rs.then, asgn, lows]
    · have hk2 : k < 7 := List.mem_range.mp hk
      have e3 := ev_mx (k := 120 + (k : Int)) S hc (by omega)
      simp [a_runB, a_sSeq, a_sAsg, a_sRet, a_sRetN, a_sExp, a_sIf, a_sNil, a_sRaise, a_sFor, a_mBin, a_mUn, a_mVar, a_mC, opt, a_mNil, a_mCons, a_mOpN, asB, a_mTest, a_mAnd, a_mOr, a_mNot, a_mAndV, a_mOrV, a_mNotV, a_mIf, a_mChain, a_mTup, a_mFrz, a_mNew, a_lDis, a_mCall, a_mMeth, a_mIsi, a_mFld, tyD, isB, a_mPart, a_mNoPart, Rs.bind, Rs.then, RSt.seq, asgn, asSeq, asT, asL, asI, setAll, dAdd_int, dSub_int, dLt_int, dLe_int, dGt_int, dGe_int, dNeg_int, dEq_int, dNe_int, dEq_bl, dNe_bl, dIsN_non, dIsN_int, dIsN_str, dIsN_lst, dIsN_tup, sizeLine_v, wipeD, e3, dMod_pos]
    · rfl
  · refine gv_ret (J := []) ?_
    simp [a_runB, a_sSeq, a_sAsg, a_sRet, a_sRetN, a_sExp, a_sIf, a_sNil, a_sRaise, a_sFor, a_mBin, a_mUn, a_mVar, a_mC, opt, a_mNil, a_mCons, a_mOpN, asB, a_mTest, a_mAnd, a_mOr, a_mNot, a_mAndV, a_mOrV, a_mNotV, a_mIf, a_mChain, a_mTup, a_mFrz, a_mNew, a_lDis, a_mCall, a_mMeth, a_mIsi, a_mFld, tyD, isB, a_mPart, a_mNoPart, Rs.bind, Rs.then, RSt.seq, asgn, asSeq, asT, asL, asI, setAll, dAdd_int, dSub_int, dLt_int, dLe_int, dGt_int, dGe_int, dNeg_int, dEq_int, dNe_int, dEq_bl, dNe_bl, dIsN_non, dIsN_int, dIsN_str, dIsN_lst, dIsN_tup, sizeLine_v, e1, dMod_pos, a_lRev, e2]
/-! rows of bands -/
def b5 (j : Int) : Int := if j = 0 then 1 else if j = 1 then 86399 else if j = 2 then 3600 else if j = 3 then 43200 else 59
theorem ix5 {j : Int} (S : Sto) (h : 0 ≤ j ∧ j < 5) : dIx (.lst [.int 1, .int 86399, .int 3600, .int 43200, .int 59]) (.int j) S = some (.int (b5 j)) := by
  have : j = 0 ∨ j = 1 ∨ j = 2 ∨ j = 3 ∨ j = 4 := by omega
  rcases this with rfl | rfl | rfl | rfl | rfl <;> rfl
def n5 (j : Int) : Int := if j = 0 then 0 else if j = 1 then 1 else if j = 2 then 2 else if j = 3 then 4 else 23
theorem ixn5 {j : Int} (S : Sto) (h : 0 ≤ j ∧ j < 5) : dIx (.lst [.int 0, .int 1, .int 2, .int 4, .int 23]) (.int j) S = some (.int (n5 j)) := by
  have : j = 0 ∨ j = 1 ∨ j = 2 ∨ j = 3 ∨ j = 4 := by omega
  rcases this with rfl | rfl | rfl | rfl | rfl <;> rfl
theorem n5_ok (j : Int) : 0 ≤ n5 j ∧ n5 j ≤ 23 := by
  unfold n5
  repeat (first | split | decide)
theorem b5_ok (j : Int) : 0 < b5 j ∧ b5 j < 86400 := by
  unfold b5
  repeat (first | split | decide)
def bnew (c : Int) (k : Nat) : Int := if mix c (50 + (k : Int)) % 5 = 0 then b5 (mix c (50 + (k : Int)) / 5 % 5) else 1 + mix c (20 + (k : Int)) % 86399
theorem bnew_ok (c : Int) (k : Nat) : 0 < bnew c k ∧ bnew c k < 86400 := by
  unfold bnew
  split
  · exact b5_ok _
  · omega
def bstep (c : Int) (bs : List Int) (k : Nat) : List Int := if bnew c k ∈ bs then bs else bs ++ [bnew c k]
def begs (c : Int) : List Int := (List.range (n5 (mix c 11 % 5)).toNat).foldl (bstep c) [0]
structure BOk (bs : List Int) : Prop where
  nd : bs.Nodup
  z : 0 ∈ bs
  r : ∀ b ∈ bs, 0 ≤ b ∧ b < 86400
theorem bstep_ok {c : Int} {bs : List Int} {k : Nat} (h : BOk bs) : BOk (bstep c bs k) ∧ (bstep c bs k).length ≤ bs.length + 1 := by
  unfold bstep
  split
  · exact ⟨h, by omega⟩
  · rename_i hn
    refine ⟨⟨?_, List.mem_append_left _ h.z, fun b hb => ?_⟩, by simp⟩
    · rw [List.nodup_append]
      exact ⟨h.nd, by simp, fun x hx y hy e => hn (by rw [List.mem_singleton.mp hy] at e; exact e ▸ hx)⟩
    · rcases List.mem_append.mp hb with hb | hb
      · exact h.r b hb
      · rw [List.mem_singleton.mp hb]
        have := bnew_ok c k
        omega
theorem fold_ok {c : Int} : ∀ {ks : List Nat} {bs : List Int}, BOk bs → BOk (ks.foldl (bstep c) bs) ∧ (ks.foldl (bstep c) bs).length ≤ bs.length + ks.length
  | [], bs, h => ⟨h, by simp⟩
  | k :: ks, bs, h => by
    obtain ⟨h1, h2⟩ := bstep_ok (c := c) (k := k) h
    obtain ⟨h3, h4⟩ := fold_ok (c := c) (ks := ks) h1
    exact ⟨h3, by rw [List.foldl_cons, List.length_cons]; omega⟩
theorem begs_ok (c : Int) : BOk (begs c) ∧ (begs c).length ≤ 24 := by
  have h0 : BOk [0] := ⟨by simp, by simp, by simp⟩
  obtain ⟨h1, h2⟩ := fold_ok (c := c) (ks := List.range (n5 (mix c 11 % 5)).toNat) h0
  have := n5_ok (mix c 11 % 5)
  rw [List.length_range] at h2
  exact ⟨h1, by unfold begs; simp at h2; omega⟩
/-- rows: begin, band -/
def rows (c : Int) : List (Int × Int) := (sortI (begs c)).zipIdx.map fun p => (p.1, mix c (80 + (p.2 : Int)) % 10)
def rowD (r : Int × Int) : D := .tup [.int r.1, .int r.2]
theorem noRefs_map {α : Type} (f : α → D) (h : ∀ x, noRef (f x) = true) (l : List α) : noRefs (l.map f) = true := by
  induction l with
  | nil => rfl
  | cons x l ih => unfold List.map noRefs; rw [ih, h]; rfl
theorem rows_body {c : Int} {k : Nat} {i : Nat} {bs : List Int} {S : Sto} {o : Option D} (hc : Ce c) (hk : k < 23) (hS : S[i]? = some (.lst (bs.map .int))) (hz : bs.length < 24) :
    sSeq (sAsg (.nm 3) (mBin dAdd (mC (.int 1)) (mBin dMod (mCall m__law_mixed [] (mCons (mVar 0) (mCons (mBin dAdd (mC (.int 20)) (mVar 2)) (mNil)))) (mC (.int 86399)))))
  (sSeq (sIf (mTest (mBin dEq (mBin dMod (mCall m__law_mixed [] (mCons (mVar 0) (mCons (mBin dAdd (mC (.int 50)) (mVar 2)) (mNil)))) (mC (.int 5))) (mC (.int 0)))) (sAsg (.nm 3) (mBin dIx (mFrz (lDis (mCons (mC (.int 1)) (mCons (mC (.int 86399)) (mCons (mC (.int 3600)) (mCons (mC (.int 43200)) (mCons (mC (.int 59)) (mNil)))))))) (mBin dMod (mBin dFDiv (mCall m__law_mixed [] (mCons (mVar 0) (mCons (mBin dAdd (mC (.int 50)) (mVar 2)) (mNil)))) (mC (.int 5))) (mC (.int 5))))) (sNil))
  (sIf (mTest (mIn (fun b => !b) (mVar 3) (mVar 1))) (sExp (mAppend (mVar 1) (mCons (mVar 3) (mNil)))) (sNil)))
    [some (.int c), some (.ref i), some (.int (k : Int)), o] S = .nx [some (.int c), some (.ref i), some (.int (k : Int)), some (.int (bnew c k))] (S.set i (.lst ((bstep c bs k).map .int))) := by
  have e1 := ev_mx (k := 20 + (k : Int)) S hc (by omega)
  have e2 := ev_mx (k := 50 + (k : Int)) S hc (by omega)
  have e3 := ix5 (j := mix c (50 + (k : Int)) / 5 % 5) S (by omega)
  have e4 : mIn (fun b => !b) (mVar 3) (mVar 1) [some (.int c), some (.ref i), some (.int (k : Int)), some (.int (bnew c k))] S = .ok (.bl (!decide (bnew c k ∈ bs))) S := mIn_ints_ref rfl rfl hS
  have e5 : mAppend (mVar 1) (mCons (mVar 3) (mNil)) [some (.int c), some (.ref i), some (.int (k : Int)), some (.int (bnew c k))] S = .ok .non (S.set i (.lst (bs.map .int ++ [.int (bnew c k)]))) := append_ok rfl hS rfl (by simp [sizeLine_v]; omega)
  have e6 : S.set i (.lst (bs.map .int)) = S := set_self hS
  by_cases h5 : mix c (50 + (k : Int)) % 5 = 0
  · have hb : bnew c k = b5 (mix c (50 + (k : Int)) / 5 % 5) := by unfold bnew; rw [if_pos h5]
    rw [hb] at e4 e5
    by_cases hm : bnew c k ∈ bs
    · rw [hb] at hm
      simp [a_runB, a_sSeq, a_sAsg, a_sRet, a_sRetN, a_sExp, a_sIf, a_sNil, a_sRaise, a_sFor, a_mBin, a_mUn, a_mVar, a_mC, opt, a_mNil, a_mCons, a_mOpN, asB, a_mTest, a_mAnd, a_mOr, a_mNot, a_mAndV, a_mOrV, a_mNotV, a_mIf, a_mChain, a_mTup, a_mFrz, a_mNew, a_lDis, a_mCall, a_mMeth, a_mIsi, a_mFld, tyD, isB, a_mPart, a_mNoPart, Rs.bind, Rs.then, RSt.seq, asgn, asSeq, asT, asL, asI, setAll, dAdd_int, dSub_int, dLt_int, dLe_int, dGt_int, dGe_int, dNeg_int, dEq_int, dNe_int, dEq_bl, dNe_bl, dIsN_non, dIsN_int, dIsN_str, dIsN_lst, dIsN_tup, sizeLine_v, e1, e2, e3, dMod_pos, dFDiv_pos, h5, e4, hm, hb, bstep, e6]
    · rw [hb] at hm
      simp [a_runB, a_sSeq, a_sAsg, a_sRet, a_sRetN, a_sExp, a_sIf, a_sNil, a_sRaise, a_sFor, a_mBin, a_mUn, a_mVar, a_mC, opt, a_mNil, a_mCons, a_mOpN, asB, a_mTest, a_mAnd, a_mOr, a_mNot, a_mAndV, a_mOrV, a_mNotV, a_mIf, a_mChain, a_mTup, a_mFrz, a_mNew, a_lDis, a_mCall, a_mMeth, a_mIsi, a_mFld, tyD, isB, a_mPart, a_mNoPart, Rs.bind, Rs.then, RSt.seq, asgn, asSeq, asT, asL, asI, setAll, dAdd_int, dSub_int, dLt_int, dLe_int, dGt_int, dGe_int, dNeg_int, dEq_int, dNe_int, dEq_bl, dNe_bl, dIsN_non, dIsN_int, dIsN_str, dIsN_lst, dIsN_tup, sizeLine_v, e1, e2, e3, dMod_pos, dFDiv_pos, h5, e4, e5, hm, hb, bstep]
  · have hb : bnew c k = 1 + mix c (20 + (k : Int)) % 86399 := by unfold bnew; rw [if_neg h5]
    rw [hb] at e4 e5
    by_cases hm : bnew c k ∈ bs
    · rw [hb] at hm
      simp [a_runB, a_sSeq, a_sAsg, a_sRet, a_sRetN, a_sExp, a_sIf, a_sNil, a_sRaise, a_sFor, a_mBin, a_mUn, a_mVar, a_mC, opt, a_mNil, a_mCons, a_mOpN, asB, a_mTest, a_mAnd, a_mOr, a_mNot, a_mAndV, a_mOrV, a_mNotV, a_mIf, a_mChain, a_mTup, a_mFrz, a_mNew, a_lDis, a_mCall, a_mMeth, a_mIsi, a_mFld, tyD, isB, a_mPart, a_mNoPart, Rs.bind, Rs.then, RSt.seq, asgn, asSeq, asT, asL, asI, setAll, dAdd_int, dSub_int, dLt_int, dLe_int, dGt_int, dGe_int, dNeg_int, dEq_int, dNe_int, dEq_bl, dNe_bl, dIsN_non, dIsN_int, dIsN_str, dIsN_lst, dIsN_tup, sizeLine_v, e1, e2, e3, dMod_pos, dFDiv_pos, h5, e4, hm, hb, bstep, e6]
    · rw [hb] at hm
      simp [a_runB, a_sSeq, a_sAsg, a_sRet, a_sRetN, a_sExp, a_sIf, a_sNil, a_sRaise, a_sFor, a_mBin, a_mUn, a_mVar, a_mC, opt, a_mNil, a_mCons, a_mOpN, asB, a_mTest, a_mAnd, a_mOr, a_mNot, a_mAndV, a_mOrV, a_mNotV, a_mIf, a_mChain, a_mTup, a_mFrz, a_mNew, a_lDis, a_mCall, a_mMeth, a_mIsi, a_mFld, tyD, isB, a_mPart, a_mNoPart, Rs.bind, Rs.then, RSt.seq, asgn, asSeq, asT, asL, asI, setAll, dAdd_int, dSub_int, dLt_int, dLe_int, dGt_int, dGe_int, dNeg_int, dEq_int, dNe_int, dEq_bl, dNe_bl, dIsN_non, dIsN_int, dIsN_str, dIsN_lst, dIsN_tup, sizeLine_v, e1, e2, e3, dMod_pos, dFDiv_pos, h5, e4, e5, hm, hb, bstep]
theorem ev_rows {c : Int} (S : Sto) (hc : Ce c) : m__law_rows [.int c] S = .ok (.lst ((rows c).map rowD)) S := by
  refine gv_trim rfl ?_ (noRefs_map rowD (fun _ => rfl) _)
  have e1 := ev_mx (k := 11) (S ++ [.lst [.int 0]]) hc (by decide)
  have e2 := ixn5 (j := mix c 11 % 5) (S ++ [.lst [.int 0]]) (by omega)
  have hn := n5_ok (mix c 11 % 5)
  refine gv_nx (en1 := [some (.int c), some (.ref S.length), none, none]) (S1 := S ++ [.lst [.int 0]]) (by simp [a_runB, a_sSeq, a_sAsg, a_sRet, a_sRetN, a_sExp, a_sIf, a_sNil, a_sRaise, a_sFor, a_mBin, a_mUn, a_mVar, a_mC, opt, a_mNil, a_mCons, a_mOpN, asB, a_mTest, a_mAnd, a_mOr, a_mNot, a_mAndV, a_mOrV, a_mNotV, a_mIf, a_mChain, a_mTup, a_mFrz, a_mNew, a_lDis, a_mCall, a_mMeth, a_mIsi, a_mFld, tyD, isB, a_mPart, a_mNoPart, Rs.bind, Rs.then, RSt.seq, asgn, asSeq, asT, asL, asI, setAll, dAdd_int, dSub_int, dLt_int, dLe_int, dGt_int, dGe_int, dNeg_int, dEq_int, dNe_int, dEq_bl, dNe_bl, dIsN_non, dIsN_int, dIsN_str, dIsN_lst, dIsN_tup, sizeLine_v]) ?_
  refine gv_for (List.range (n5 (mix c 11 % 5)).toNat) (fun (k : Nat) => D.int (k : Int)) (fun ks en S' => ∃ bs o1 o2, en = [some (.int c), some (.ref S.length), o1, o2] ∧ S' = S ++ [.lst (bs.map .int)] ∧ ks.foldl (bstep c) bs = begs c ∧ bs.length + ks.length ≤ 24 ∧ ∀ k ∈ ks, k < 23)
    (iRange1_ok (j := n5 (mix c 11 % 5)) (by simp [a_runB, a_sSeq, a_sAsg, a_sRet, a_sRetN, a_sExp, a_sIf, a_sNil, a_sRaise, a_sFor, a_mBin, a_mUn, a_mVar, a_mC, opt, a_mNil, a_mCons, a_mOpN, asB, a_mTest, a_mAnd, a_mOr, a_mNot, a_mAndV, a_mOrV, a_mNotV, a_mIf, a_mChain, a_mTup, a_mFrz, a_mNew, a_lDis, a_mCall, a_mMeth, a_mIsi, a_mFld, tyD, isB, a_mPart, a_mNoPart, Rs.bind, Rs.then, RSt.seq, asgn, asSeq, asT, asL, asI, setAll, dAdd_int, dSub_int, dLt_int, dLe_int, dGt_int, dGe_int, dNeg_int, dEq_int, dNe_int, dEq_bl, dNe_bl, dIsN_non, dIsN_int, dIsN_str, dIsN_lst, dIsN_tup, sizeLine_v, e1, dMod_pos, e2]) (by omega)) rfl ⟨[0], none, none, rfl, rfl, rfl, by simp; omega, fun k hk => by have := List.mem_range.mp hk; omega⟩ (fun _ _ _ _ => rfl) ?_ ?_
  · rintro k ks en S' ⟨bs, o1, o2, rfl, rfl, hf, hl, hk⟩
    refine ⟨_, rfl, .inl ⟨_, _, rows_body hc (hk k List.mem_cons_self) get_last (by simp at hl; omega), bstep c bs k, _, _, rfl, set_last, hf, ?_, fun k' hk' => hk k' (List.mem_cons_of_mem _ hk')⟩⟩
    have : (bstep c bs k).length ≤ bs.length + 1 := by unfold bstep; split <;> simp
    simp at hl
    omega
  · rintro en S' ⟨bs, o1, o2, rfl, rfl, hf, hl, hk⟩
    have hf : bs = begs c := hf
    subst hf
    refine gv_ret (J := [.lst ((begs c).map .int)]) ?_
    have e3 : (S ++ [SO.lst ((begs c).map D.int)])[S.length]? = some (.lst ((begs c).map .int)) := get_last
    have e4 : mFrz (lSortI (mCons (mVar 1) (mNil))) [some (.int c), some (.ref S.length), o1, o2] (S ++ [.lst ((begs c).map .int)]) = .ok (.lst ((sortI (begs c)).map .int)) (S ++ [.lst ((begs c).map .int)]) := by
      simp [a_runB, a_sSeq, a_sAsg, a_sRet, a_sRetN, a_sExp, a_sIf, a_sNil, a_sRaise, a_sFor, a_mBin, a_mUn, a_mVar, a_mC, opt, a_mNil, a_mCons, a_mOpN, asB, a_mTest, a_mAnd, a_mOr, a_mNot, a_mAndV, a_mOrV, a_mNotV, a_mIf, a_mChain, a_mTup, a_mFrz, a_mNew, a_lDis, a_mCall, a_mMeth, a_mIsi, a_mFld, tyD, isB, a_mPart, a_mNoPart, Rs.bind, Rs.then, RSt.seq, asgn, asSeq, asT, asL, asI, setAll, dAdd_int, dSub_int, dLt_int, dLe_int, dGt_int, dGe_int, dNeg_int, dEq_int, dNe_int, dEq_bl, dNe_bl, dIsN_non, dIsN_int, dIsN_str, dIsN_lst, dIsN_tup, sizeLine_v, a_lSortI, asInts_map]
    have hz : (sortI (begs c)).length ≤ 24 := by rw [(sortI_perm _).length_eq]; exact (begs_ok c).2
    rw [a_mFrz, lComp_map ((sortI (begs c)).zipIdx) (fun p => D.tup [.int (p.2 : Int), .int p.1]) (fun p => rowD (p.1, mix c (80 + (p.2 : Int)) % 10)) (iEnum_lst (by rw [a_mCons, e4]; rfl)) (enumD_map _ _) rfl (by simp [sizeLine_v]; omega) fun p hp => ⟨_, rfl, ?_⟩]
    · simp [Rs.bind, rows]
    · have hp2 : p.2 < 24 := by
        have := List.snd_lt_of_mem_zipIdx hp
        omega
      have e5 := ev_mx (k := 80 + (p.2 : Int)) (S ++ [.lst ((begs c).map .int)]) hc (by omega)
      simp [a_runB, a_sSeq, a_sAsg, a_sRet, a_sRetN, a_sExp, a_sIf, a_sNil, a_sRaise, a_sFor, a_mBin, a_mUn, a_mVar, a_mC, opt, a_mNil, a_mCons, a_mOpN, asB, a_mTest, a_mAnd, a_mOr, a_mNot, a_mAndV, a_mOrV, a_mNotV, a_mIf, a_mChain, a_mTup, a_mFrz, a_mNew, a_lDis, a_mCall, a_mMeth, a_mIsi, a_mFld, tyD, isB, a_mPart, a_mNoPart, Rs.bind, Rs.then, RSt.seq, asgn, asSeq, asT, asL, asI, setAll, dAdd_int, dSub_int, dLt_int, dLe_int, dGt_int, dGe_int, dNeg_int, dEq_int, dNe_int, dEq_bl, dNe_bl, dIsN_non, dIsN_int, dIsN_str, dIsN_lst, dIsN_tup, sizeLine_v, wipeD, e5, dMod_pos, rowD]
/-! rows of prices -/
theorem figs_len {c most : Int} (hm : 1 ≤ most ∧ most ≤ 16) : 1 ≤ (figs c most).length ∧ ((figs c most).length : Int) ≤ most := by
  have l1 : 0 ≤ mix c 229 % most := Int.emod_nonneg _ (by omega)
  have l2 : mix c 229 % most < most := Int.emod_lt_of_pos _ (by omega)
  have e : (figs c most).length = (1 + mix c 229 % most).toNat := by
    show (((List.range (1 + mix c 229 % most).toNat).map (chs c)).toArray).size = _
    simp
  rw [e]
  omega
theorem figs_chr {c most : Int} {x : Nat} (h : x ∈ (figs c most).cps.toList) : 48 ≤ x ∧ x ≤ 51 := by
  have h : x ∈ (List.range (1 + mix c 229 % most).toNat).map (chs c) := h
  obtain ⟨k, _, rfl⟩ := List.mem_map.mp h
  unfold chs
  omega
def pstep (c : Int) (rs : List (Str × List Int)) (k : Nat) : List (Str × List Int) := if figs (mix c (431 + (k : Int))) 3 ∈ rs.map (·.1) then rs else rs ++ [(figs (mix c (431 + (k : Int))) 3, prs (mix c (441 + (k : Int))))]
def prows (c : Int) : List (Str × List Int) := (List.range (1 + mix c 430 % 6).toNat).foldl (pstep c) []
def pD (r : Str × List Int) : D := .tup [.str r.1, .lst (r.2.map .int)]
/-- figures -/
def FOk (x : Str) : Prop := 1 ≤ x.length ∧ x.length ≤ 15 ∧ ∀ c ∈ x.cps.toList, 48 ≤ c ∧ c ≤ 57
structure POk (rs : List (Str × List Int)) : Prop where
  nd : (rs.map (·.1)).Nodup
  k : ∀ r ∈ rs, FOk r.1
  p : ∀ r ∈ rs, r.2.length = 10 ∧ ∀ p ∈ r.2, 0 ≤ p ∧ p ≤ 1000000000
theorem figs_ok {c most : Int} (hm : 1 ≤ most ∧ most ≤ 15) : FOk (figs c most) := by
  have := figs_len (c := c) (most := most) (by omega)
  exact ⟨by omega, by omega, fun x hx => by have := figs_chr hx; omega⟩
theorem pstep_ok {c : Int} {rs : List (Str × List Int)} {k : Nat} (h : POk rs) : POk (pstep c rs k) ∧ (pstep c rs k).length ≤ rs.length + 1 := by
  unfold pstep
  split
  · exact ⟨h, by omega⟩
  · rename_i hn
    refine ⟨⟨?_, fun r hr => ?_, fun r hr => ?_⟩, by simp⟩
    · rw [List.map_append, List.nodup_append]
      exact ⟨h.nd, by simp, fun x hx y hy e => hn (by
        have hy : y = figs (mix c (431 + (k : Int))) 3 := by simpa using hy
        rw [hy] at e; exact e ▸ hx)⟩
    · rcases List.mem_append.mp hr with hr | hr
      · exact h.k r hr
      · rw [List.mem_singleton.mp hr]; exact figs_ok (by decide)
    · rcases List.mem_append.mp hr with hr | hr
      · exact h.p r hr
      · rw [List.mem_singleton.mp hr]; exact ⟨by simp [prs], fun p hp => prs_ok hp⟩
theorem pfold_ok {c : Int} : ∀ {ks : List Nat} {rs : List (Str × List Int)}, POk rs → POk (ks.foldl (pstep c) rs) ∧ (ks.foldl (pstep c) rs).length ≤ rs.length + ks.length
  | [], rs, h => ⟨h, by simp⟩
  | k :: ks, rs, h => by
    obtain ⟨h1, h2⟩ := pstep_ok (c := c) (k := k) h
    obtain ⟨h3, h4⟩ := pfold_ok (c := c) (ks := ks) h1
    exact ⟨h3, by rw [List.foldl_cons, List.length_cons]; omega⟩
theorem prows_ok (c : Int) : POk (prows c) ∧ (prows c).length ≤ 6 := by
  have h0 : POk [] := ⟨by simp, by simp, by simp⟩
  obtain ⟨h1, h2⟩ := pfold_ok (c := c) (ks := List.range (1 + mix c 430 % 6).toNat) h0
  rw [List.length_range] at h2
  exact ⟨h1, by unfold prows; simp at h2; omega⟩
theorem prows_body {c : Int} {k : Nat} {i : Nat} {rs : List (Str × List Int)} {S : Sto} {o o4 : Option D} (hc : Ce c) (hk : k < 6) (hS : S[i]? = some (.lst (rs.map pD))) (hz : rs.length < 24) :
    sSeq (sAsg (.nm 3) (mCall m__law_figures [] (mCons (mCall m__law_mixed [] (mCons (mVar 0) (mCons (mBin dAdd (mC (.int 431)) (mVar 2)) (mNil)))) (mCons (mC (.int 3)) (mNil)))))
  (sIf (mTest (mIn (fun b => !b) (mVar 3) (mFrz (lComp (iSeq (mVar 1)) (.nm 4) (mYes) (mBin dIx (mVar 4) (mC (.int 0))) [4])))) (sExp (mAppend (mVar 1) (mCons (mTup (mCons (mVar 3) (mCons (mCall m__law_prices [] (mCons (mCall m__law_mixed [] (mCons (mVar 0) (mCons (mBin dAdd (mC (.int 441)) (mVar 2)) (mNil)))) (mNil))) (mNil)))) (mNil)))) (sNil))
    [some (.int c), some (.ref i), some (.int (k : Int)), o, o4] S = .nx [some (.int c), some (.ref i), some (.int (k : Int)), some (.str (figs (mix c (431 + (k : Int))) 3)), o4] (S.set i (.lst ((pstep c rs k).map pD))) := by
  have e1 := ev_mx (k := 431 + (k : Int)) S hc (by omega)
  have e2 := ev_mx (k := 441 + (k : Int)) S hc (by omega)
  have e3 := ev_figures (c := mix c (431 + (k : Int))) (most := 3) S (mix_ce _ _) (by decide)
  have e3b := ev_prices (c := mix c (441 + (k : Int))) S (mix_ce _ _)
  have e4 : ∀ f : Str, mFrz (lComp (iSeq (mVar 1)) (.nm 4) (mYes) (mBin dIx (mVar 4) (mC (.int 0))) [4]) [some (.int c), some (.ref i), some (.int (k : Int)), some (.str f), o4] S = .ok (.lst ((rs.map (·.1)).map .str)) S := fun f => by
    rw [a_mFrz, lComp_map rs pD (fun r => D.str r.1) (iSeq_ref rfl hS) rfl (stays_ref hS) (by simp [sizeLine_v]; omega) fun r hr => ⟨_, rfl, ?_⟩]
    · simp [Rs.bind]
    · have : dIx (pD r) (.int 0) S = some (.str r.1) := rfl
      simp [a_runB, a_sSeq, a_sAsg, a_sRet, a_sRetN, a_sExp, a_sIf, a_sNil, a_sRaise, a_sFor, a_mBin, a_mUn, a_mVar, a_mC, opt, a_mNil, a_mCons, a_mOpN, asB, a_mTest, a_mAnd, a_mOr, a_mNot, a_mAndV, a_mOrV, a_mNotV, a_mIf, a_mChain, a_mTup, a_mFrz, a_mNew, a_lDis, a_mCall, a_mMeth, a_mIsi, a_mFld, tyD, isB, a_mPart, a_mNoPart, Rs.bind, Rs.then, RSt.seq, asgn, asSeq, asT, asL, asI, setAll, dAdd_int, dSub_int, dLt_int, dLe_int, dGt_int, dGe_int, dNeg_int, dEq_int, dNe_int, dEq_bl, dNe_bl, dIsN_non, dIsN_int, dIsN_str, dIsN_lst, dIsN_tup, sizeLine_v, wipeD, this]
  have e5 : ∀ f : Str, mIn (fun b => !b) (mVar 3) (mFrz (lComp (iSeq (mVar 1)) (.nm 4) (mYes) (mBin dIx (mVar 4) (mC (.int 0))) [4])) [some (.int c), some (.ref i), some (.int (k : Int)), some (.str f), o4] S = .ok (.bl (!decide (f ∈ rs.map (·.1)))) S := fun f => mIn_strs_lst rfl (e4 f)
  have e6 : ∀ f : Str, mAppend (mVar 1) (mCons (mTup (mCons (mVar 3) (mCons (mCall m__law_prices [] (mCons (mCall m__law_mixed [] (mCons (mVar 0) (mCons (mBin dAdd (mC (.int 441)) (mVar 2)) (mNil)))) (mNil))) (mNil)))) (mNil)) [some (.int c), some (.ref i), some (.int (k : Int)), some (.str f), o4] S = .ok .non (S.set i (.lst (rs.map pD ++ [pD (f, prs (mix c (441 + (k : Int))))]))) := fun f =>
    append_ok rfl hS (by simp [a_runB, a_sSeq, a_sAsg, a_sRet, a_sRetN, a_sExp, a_sIf, a_sNil, a_sRaise, a_sFor, a_mBin, a_mUn, a_mVar, a_mC, opt, a_mNil, a_mCons, a_mOpN, asB, a_mTest, a_mAnd, a_mOr, a_mNot, a_mAndV, a_mOrV, a_mNotV, a_mIf, a_mChain, a_mTup, a_mFrz, a_mNew, a_lDis, a_mCall, a_mMeth, a_mIsi, a_mFld, tyD, isB, a_mPart, a_mNoPart, Rs.bind, Rs.then, RSt.seq, asgn, asSeq, asT, asL, asI, setAll, dAdd_int, dSub_int, dLt_int, dLe_int, dGt_int, dGe_int, dNeg_int, dEq_int, dNe_int, dEq_bl, dNe_bl, dIsN_non, dIsN_int, dIsN_str, dIsN_lst, dIsN_tup, sizeLine_v, e2, e3b, pD]) (by simp [sizeLine_v]; omega)
  have e7 : S.set i (.lst (rs.map pD)) = S := set_self hS
  have e5 := e5 (figs (mix c (431 + (k : Int))) 3)
  have e6 := e6 (figs (mix c (431 + (k : Int))) 3)
  by_cases hm : figs (mix c (431 + (k : Int))) 3 ∈ rs.map (·.1)
  · rw [decide_eq_true hm] at e5
    simp only [pstep, if_pos hm, e7]
    simp [a_runB, a_sSeq, a_sAsg, a_sRet, a_sRetN, a_sExp, a_sIf, a_sNil, a_sRaise, a_sFor, a_mBin, a_mUn, a_mVar, a_mC, opt, a_mNil, a_mCons, a_mOpN, asB, a_mTest, a_mAnd, a_mOr, a_mNot, a_mAndV, a_mOrV, a_mNotV, a_mIf, a_mChain, a_mTup, a_mFrz, a_mNew, a_lDis, a_mCall, a_mMeth, a_mIsi, a_mFld, tyD, isB, a_mPart, a_mNoPart, Rs.bind, Rs.then, RSt.seq, asgn, asSeq, asT, asL, asI, setAll, dAdd_int, dSub_int, dLt_int, dLe_int, dGt_int, dGe_int, dNeg_int, dEq_int, dNe_int, dEq_bl, dNe_bl, dIsN_non, dIsN_int, dIsN_str, dIsN_lst, dIsN_tup, sizeLine_v, e1, e3, e5]
  · rw [decide_eq_false hm] at e5
    simp only [pstep, if_neg hm, List.map_append, List.map_cons, List.map_nil]
    simp [a_runB, a_sSeq, a_sAsg, a_sRet, a_sRetN, a_sExp, a_sIf, a_sNil, a_sRaise, a_sFor, a_mBin, a_mUn, a_mVar, a_mC, opt, a_mNil, a_mCons, a_mOpN, asB, a_mTest, a_mAnd, a_mOr, a_mNot, a_mAndV, a_mOrV, a_mNotV, a_mIf, a_mChain, a_mTup, a_mFrz, a_mNew, a_lDis, a_mCall, a_mMeth, a_mIsi, a_mFld, tyD, isB, a_mPart, a_mNoPart, Rs.bind, Rs.then, RSt.seq, asgn, asSeq, asT, asL, asI, setAll, dAdd_int, dSub_int, dLt_int, dLe_int, dGt_int, dGe_int, dNeg_int, dEq_int, dNe_int, dEq_bl, dNe_bl, dIsN_non, dIsN_int, dIsN_str, dIsN_lst, dIsN_tup, sizeLine_v, e1, e3, e5, e6]
theorem frz_pD (r : Str × List Int) (S : Sto) : frz 7 (pD r) S = some (pD r, S) := frz_tup fun d hd => by
  rcases List.mem_cons.mp hd with e | hd
  · rw [e]; rfl
  · rw [List.mem_singleton.mp hd]; rfl
theorem noRef_pD (r : Str × List Int) : noRef (pD r) = true := by
  unfold pD noRef noRefs noRefs noRefs noRef
  rw [noRefs_ints]
  rfl
theorem ev_price_rows {c : Int} (S : Sto) (hc : Ce c) : m__law_price_rows [.int c] S = .ok (.lst ((prows c).map pD)) S := by
  refine gv_trim rfl ?_ (noRefs_map pD noRef_pD _)
  have e1 := ev_mx (k := 430) (S ++ [.lst []]) hc (by decide)
  refine gv_nx (en1 := [some (.int c), some (.ref S.length), none, none, none]) (S1 := S ++ [.lst []]) (by simp [a_runB, a_sSeq, a_sAsg, a_sRet, a_sRetN, a_sExp, a_sIf, a_sNil, a_sRaise, a_sFor, a_mBin, a_mUn, a_mVar, a_mC, opt, a_mNil, a_mCons, a_mOpN, asB, a_mTest, a_mAnd, a_mOr, a_mNot, a_mAndV, a_mOrV, a_mNotV, a_mIf, a_mChain, a_mTup, a_mFrz, a_mNew, a_lDis, a_mCall, a_mMeth, a_mIsi, a_mFld, tyD, isB, a_mPart, a_mNoPart, Rs.bind, Rs.then, RSt.seq, asgn, asSeq, asT, asL, asI, setAll, dAdd_int, dSub_int, dLt_int, dLe_int, dGt_int, dGe_int, dNeg_int, dEq_int, dNe_int, dEq_bl, dNe_bl, dIsN_non, dIsN_int, dIsN_str, dIsN_lst, dIsN_tup, sizeLine_v]) ?_
  refine gv_for (List.range (1 + mix c 430 % 6).toNat) (fun (k : Nat) => D.int (k : Int)) (fun ks en S' => ∃ rs o1 o2 o3, en = [some (.int c), some (.ref S.length), o1, o2, o3] ∧ S' = S ++ [.lst (rs.map pD)] ∧ ks.foldl (pstep c) rs = prows c ∧ rs.length + ks.length ≤ 6 ∧ ∀ k ∈ ks, k < 6)
    (iRange1_ok (j := 1 + mix c 430 % 6) (by simp [a_runB, a_sSeq, a_sAsg, a_sRet, a_sRetN, a_sExp, a_sIf, a_sNil, a_sRaise, a_sFor, a_mBin, a_mUn, a_mVar, a_mC, opt, a_mNil, a_mCons, a_mOpN, asB, a_mTest, a_mAnd, a_mOr, a_mNot, a_mAndV, a_mOrV, a_mNotV, a_mIf, a_mChain, a_mTup, a_mFrz, a_mNew, a_lDis, a_mCall, a_mMeth, a_mIsi, a_mFld, tyD, isB, a_mPart, a_mNoPart, Rs.bind, Rs.then, RSt.seq, asgn, asSeq, asT, asL, asI, setAll, dAdd_int, dSub_int, dLt_int, dLe_int, dGt_int, dGe_int, dNeg_int, dEq_int, dNe_int, dEq_bl, dNe_bl, dIsN_non, dIsN_int, dIsN_str, dIsN_lst, dIsN_tup, sizeLine_v, e1, dMod_pos]) (by omega)) rfl ⟨[], none, none, none, rfl, rfl, rfl, by simp; omega, fun k hk => by have := List.mem_range.mp hk; omega⟩ (fun _ _ _ _ => rfl) ?_ ?_
  · rintro k ks en S' ⟨rs, o1, o2, o3, rfl, rfl, hf, hl, hk⟩
    refine ⟨_, rfl, .inl ⟨_, _, prows_body hc (hk k List.mem_cons_self) get_last (by simp at hl; omega), pstep c rs k, _, _, _, rfl, set_last, hf, ?_, fun k' hk' => hk k' (List.mem_cons_of_mem _ hk')⟩⟩
    have : (pstep c rs k).length ≤ rs.length + 1 := by unfold pstep; split <;> simp
    simp at hl
    omega
  · rintro en S' ⟨rs, o1, o2, o3, rfl, rfl, hf, hl, hk⟩
    have hf : rs = prows c := hf
    subst hf
    refine gv_ret (J := [.dead]) ?_
    rw [freeze_ref (i := S.length) (ds := (prows c).map pD) rfl get_last, set_last]
    intro d hd
    obtain ⟨r, _, rfl⟩ := List.mem_map.mp hd
    exact frz_pD r _
/-! accounts -/
def far (c : Int) : Int := mix c 2 * 2147483629 + mix c 3
def midn (c : Int) : Int := if far c % 11574074074 * 86400 + mix c 4 % 3 - 1 > 0 then far c % 11574074074 * 86400 + mix c 4 % 3 - 1 else 0
def tm (c : Int) : Int := if mix c 1 % 4 = 0 then far c % 864000 else if mix c 1 % 4 = 1 then midn c else if mix c 1 % 4 = 2 then far c % 1000000000000001 else 1000000000000000 - far c % 90000
theorem tm_ok (c : Int) : 0 ≤ tm c ∧ tm c ≤ 1000000000000000 := by
  unfold tm midn
  repeat (first | split | omega)
theorem ev_time {c : Int} (S : Sto) (hc : c.natAbs.log2 < 1500000) : m__law_time [.int c] S = .ok (.int (tm c)) S := by
  refine trim_pure (J := []) ?_ rfl
  have hc2 : c.natAbs.log2 < 2000000 := by omega
  have e1 := ev_mixed (k := 1) S hc2 (by decide)
  have e2 := ev_mixed (k := 2) S hc2 (by decide)
  have e3 := ev_mixed (k := 3) S hc2 (by decide)
  have e4 := ev_mixed (k := 4) S hc2 (by decide)
  have s1 : Sm (mix c 2) := sm_of (by have := mix_ce c 2; unfold Ce at this; omega)
  have s2 : Sm (2147483629 : Int) := sm_of (by decide)
  have s3 : Sm (far c % 11574074074) := sm_of (by omega)
  have s4 : Sm (86400 : Int) := sm_of (by decide)
  have p1 : dPow (.int 10) (.int 15) S = some (.int 1000000000000000) := by rw [dPow_small (by decide)]; rfl
  have e5 : dIx (.lst [.int (far c % 864000), .int (midn c), .int (far c % 1000000000000001), .int (1000000000000000 - far c % 90000)]) (.int (mix c 1 % 4)) S = some (.int (tm c)) := by
    have h : mix c 1 % 4 = 0 ∨ mix c 1 % 4 = 1 ∨ mix c 1 % 4 = 2 ∨ mix c 1 % 4 = 3 := by omega
    unfold tm
    rcases h with h | h | h | h <;> rw [h] <;> rfl
  have f1 : mBin dAdd (mBin dMulI (mCall m__law_mixed [] (mCons (mVar 0) (mCons (mC (.int 2)) (mNil)))) (mC (.int 2147483629))) (mCall m__law_mixed [] (mCons (mVar 0) (mCons (mC (.int 3)) (mNil)))) [some (.int c), none, none] S = .ok (.int (far c)) S := by
    simp [a_runB, a_sSeq, a_sAsg, a_sRet, a_sRetN, a_sExp, a_sIf, a_sNil, a_sRaise, a_sFor, a_mBin, a_mUn, a_mVar, a_mC, opt, a_mNil, a_mCons, a_mOpN, asB, a_mTest, a_mAnd, a_mOr, a_mNot, a_mAndV, a_mOrV, a_mNotV, a_mIf, a_mChain, a_mTup, a_mFrz, a_mNew, a_lDis, a_mCall, a_mMeth, a_mIsi, a_mFld, tyD, isB, a_mPart, a_mNoPart, Rs.bind, Rs.then, RSt.seq, asgn, asSeq, asT, asL, asI, setAll, dAdd_int, dSub_int, dLt_int, dLe_int, dGt_int, dGe_int, dNeg_int, dEq_int, dNe_int, dEq_bl, dNe_bl, dIsN_non, dIsN_int, dIsN_str, dIsN_lst, dIsN_tup, sizeLine_v, e2, e3, dMulI_sm, s1, s2, far]
  have f2 : mOpN oMax2 (mCons (mC (.int 0)) (mCons (mBin dSub (mBin dAdd (mBin dMulI (mBin dMod (mVar 1) (mC (.int 11574074074))) (mC (.int 86400))) (mBin dMod (mCall m__law_mixed [] (mCons (mVar 0) (mCons (mC (.int 4)) (mNil)))) (mC (.int 3)))) (mC (.int 1))) (mNil))) [some (.int c), some (.int (far c)), none] S = .ok (.int (midn c)) S := by
    simp [a_runB, a_sSeq, a_sAsg, a_sRet, a_sRetN, a_sExp, a_sIf, a_sNil, a_sRaise, a_sFor, a_mBin, a_mUn, a_mVar, a_mC, opt, a_mNil, a_mCons, a_mOpN, asB, a_mTest, a_mAnd, a_mOr, a_mNot, a_mAndV, a_mOrV, a_mNotV, a_mIf, a_mChain, a_mTup, a_mFrz, a_mNew, a_lDis, a_mCall, a_mMeth, a_mIsi, a_mFld, tyD, isB, a_mPart, a_mNoPart, Rs.bind, Rs.then, RSt.seq, asgn, asSeq, asT, asL, asI, setAll, dAdd_int, dSub_int, dLt_int, dLe_int, dGt_int, dGe_int, dNeg_int, dEq_int, dNe_int, dEq_bl, dNe_bl, dIsN_non, dIsN_int, dIsN_str, dIsN_lst, dIsN_tup, sizeLine_v, e4, oMax2, midn, dMod_pos, dMulI_sm, s3, s4]
  rw [a_runB]
  simp only [b__law_time, a_sSeq, a_sAsg, List.length_cons, List.length_nil, List.map_cons, List.map_nil, List.replicate, List.cons_append, List.nil_append, Rs.then, asgn, RSt.seq]
  simp [f1, f2, a_runB, a_sSeq, a_sAsg, a_sRet, a_sRetN, a_sExp, a_sIf, a_sNil, a_sRaise, a_sFor, a_mBin, a_mUn, a_mVar, a_mC, opt, a_mNil, a_mCons, a_mOpN, asB, a_mTest, a_mAnd, a_mOr, a_mNot, a_mAndV, a_mOrV, a_mNotV, a_mIf, a_mChain, a_mTup, a_mFrz, a_mNew, a_lDis, a_mCall, a_mMeth, a_mIsi, a_mFld, tyD, isB, a_mPart, a_mNoPart, Rs.bind, Rs.then, RSt.seq, asgn, asSeq, asT, asL, asI, setAll, dAdd_int, dSub_int, dLt_int, dLe_int, dGt_int, dGe_int, dNeg_int, dEq_int, dNe_int, dEq_bl, dNe_bl, dIsN_non, dIsN_int, dIsN_str, dIsN_lst, dIsN_tup, sizeLine_v, e1, dMod_pos, p1, e5]
structure Acct where
  p : Int
  n : Str
  b : Int
  e : Int
def aD (a : Acct) : D := .tup [.int a.p, .str a.n, .int a.b, .int a.e]
structure AOk (a : Acct) : Prop where
  p : 0 ≤ a.p ∧ a.p ≤ 52 ∧ a.p % 13 = 0
  n : FOk a.n
  b : 0 ≤ a.b
  be : a.b ≤ a.e
  e : a.e ≤ 1000000000000000
def tb (c : Int) : Int := if tm c ≤ tm (c + 79) then tm c else tm (c + 79)
def te0 (c : Int) : Int := if tm c ≤ tm (c + 79) then tm (c + 79) else tm c
def te (c : Int) : Int := if mix c 451 % 3 = 0 then (if tb c + mix c 452 % 500 < 1000000000000000 then tb c + mix c 452 % 500 else 1000000000000000) else te0 c
def acct (c : Int) : Acct := ⟨mix c 453 % 5 * 13, figs (mix c 454) 5, tb c, te c⟩
theorem acct_ok (c : Int) : AOk (acct c) := by
  have h1 := tm_ok c
  have h2 := tm_ok (c + 79)
  refine ⟨by unfold acct; dsimp only; omega, figs_ok (by decide), ?_, ?_, ?_⟩
  all_goals
    unfold acct te te0 tb
    dsimp only
    repeat (first | split | omega)
theorem ev_account {c : Int} (S : Sto) (hc : c.natAbs.log2 < 1100000) : m__law_account [.int c] S = .ok (aD (acct c)) S := by
  refine gv_trim rfl ?_ rfl
  have hc2 : c.natAbs.log2 < 2000000 := by omega
  have hc3 : (c + 79).natAbs.log2 < 1500000 := Nat.lt_of_le_of_lt (log2_mono (Int.natAbs_add_le _ _)) (Nat.lt_trans (log2_add hc (show (79 : Int).natAbs.log2 < 1100000 by decide)) (by decide))
  have e1 := ev_mixed (k := 451) S hc2 (by decide)
  have e2 := ev_mixed (k := 452) S hc2 (by decide)
  have e3 := ev_mixed (k := 453) S hc2 (by decide)
  have e4 := ev_mixed (k := 454) S hc2 (by decide)
  have e5 := ev_time S (show c.natAbs.log2 < 1500000 by omega)
  have e6 := ev_time S hc3
  have e7 := ev_figures (c := mix c 454) (most := 5) S (mix_ce _ _) (by decide)
  have p1 : dPow (.int 10) (.int 15) S = some (.int 1000000000000000) := by rw [dPow_small (by decide)]; rfl
  have s1 : Sm (mix c 453 % 5) := sm_of (by omega)
  have s2 : Sm (13 : Int) := sm_of (by decide)
  have f1 : sAsg (.tp [1, 2]) (mFrz (lSortI (mCons (mFrz (lDis (mCons (mCall m__law_time [] (mCons (mVar 0) (mNil))) (mCons (mCall m__law_time [] (mCons (mBin dAdd (mVar 0) (mC (.int 79))) (mNil))) (mNil))))) (mNil)))) [some (.int c), none, none] S = .nx [some (.int c), some (.int (tb c)), some (.int (te0 c))] S := by
    by_cases h : tm c ≤ tm (c + 79)
    · simp [a_runB, a_sSeq, a_sAsg, a_sRet, a_sRetN, a_sExp, a_sIf, a_sNil, a_sRaise, a_sFor, a_mBin, a_mUn, a_mVar, a_mC, opt, a_mNil, a_mCons, a_mOpN, asB, a_mTest, a_mAnd, a_mOr, a_mNot, a_mAndV, a_mOrV, a_mNotV, a_mIf, a_mChain, a_mTup, a_mFrz, a_mNew, a_lDis, a_mCall, a_mMeth, a_mIsi, a_mFld, tyD, isB, a_mPart, a_mNoPart, Rs.bind, Rs.then, RSt.seq, asgn, asSeq, asT, asL, asI, setAll, dAdd_int, dSub_int, dLt_int, dLe_int, dGt_int, dGe_int, dNeg_int, dEq_int, dNe_int, dEq_bl, dNe_bl, dIsN_non, dIsN_int, dIsN_str, dIsN_lst, dIsN_tup, sizeLine_v, e5, e6, a_lSortI, asInts, sortI_two, h, tb, te0]
    · simp [a_runB, a_sSeq, a_sAsg, a_sRet, a_sRetN, a_sExp, a_sIf, a_sNil, a_sRaise, a_sFor, a_mBin, a_mUn, a_mVar, a_mC, opt, a_mNil, a_mCons, a_mOpN, asB, a_mTest, a_mAnd, a_mOr, a_mNot, a_mAndV, a_mOrV, a_mNotV, a_mIf, a_mChain, a_mTup, a_mFrz, a_mNew, a_lDis, a_mCall, a_mMeth, a_mIsi, a_mFld, tyD, isB, a_mPart, a_mNoPart, Rs.bind, Rs.then, RSt.seq, asgn, asSeq, asT, asL, asI, setAll, dAdd_int, dSub_int, dLt_int, dLe_int, dGt_int, dGe_int, dNeg_int, dEq_int, dNe_int, dEq_bl, dNe_bl, dIsN_non, dIsN_int, dIsN_str, dIsN_lst, dIsN_tup, sizeLine_v, e5, e6, a_lSortI, asInts, sortI_two, h, tb, te0]
  refine gv_nx f1 ?_
  refine gv_nx (en1 := [some (.int c), some (.int (tb c)), some (.int (te c))]) (S1 := S) ?_ (gv_ret (J := []) ?_)
  · by_cases h : mix c 451 % 3 = 0
    · simp [a_runB, a_sSeq, a_sAsg, a_sRet, a_sRetN, a_sExp, a_sIf, a_sNil, a_sRaise, a_sFor, a_mBin, a_mUn, a_mVar, a_mC, opt, a_mNil, a_mCons, a_mOpN, asB, a_mTest, a_mAnd, a_mOr, a_mNot, a_mAndV, a_mOrV, a_mNotV, a_mIf, a_mChain, a_mTup, a_mFrz, a_mNew, a_lDis, a_mCall, a_mMeth, a_mIsi, a_mFld, tyD, isB, a_mPart, a_mNoPart, Rs.bind, Rs.then, RSt.seq, asgn, asSeq, asT, asL, asI, setAll, dAdd_int, dSub_int, dLt_int, dLe_int, dGt_int, dGe_int, dNeg_int, dEq_int, dNe_int, dEq_bl, dNe_bl, dIsN_non, dIsN_int, dIsN_str, dIsN_lst, dIsN_tup, sizeLine_v, e1, e2, dMod_pos, h, p1, oMin2, te]
    · simp [a_runB, a_sSeq, a_sAsg, a_sRet, a_sRetN, a_sExp, a_sIf, a_sNil, a_sRaise, a_sFor, a_mBin, a_mUn, a_mVar, a_mC, opt, a_mNil, a_mCons, a_mOpN, asB, a_mTest, a_mAnd, a_mOr, a_mNot, a_mAndV, a_mOrV, a_mNotV, a_mIf, a_mChain, a_mTup, a_mFrz, a_mNew, a_lDis, a_mCall, a_mMeth, a_mIsi, a_mFld, tyD, isB, a_mPart, a_mNoPart, Rs.bind, Rs.then, RSt.seq, asgn, asSeq, asT, asL, asI, setAll, dAdd_int, dSub_int, dLt_int, dLe_int, dGt_int, dGe_int, dNeg_int, dEq_int, dNe_int, dEq_bl, dNe_bl, dIsN_non, dIsN_int, dIsN_str, dIsN_lst, dIsN_tup, sizeLine_v, e1, e2, dMod_pos, h, p1, oMin2, te]
  · simp [a_runB, a_sSeq, a_sAsg, a_sRet, a_sRetN, a_sExp, a_sIf, a_sNil, a_sRaise, a_sFor, a_mBin, a_mUn, a_mVar, a_mC, opt, a_mNil, a_mCons, a_mOpN, asB, a_mTest, a_mAnd, a_mOr, a_mNot, a_mAndV, a_mOrV, a_mNotV, a_mIf, a_mChain, a_mTup, a_mFrz, a_mNew, a_lDis, a_mCall, a_mMeth, a_mIsi, a_mFld, tyD, isB, a_mPart, a_mNoPart, Rs.bind, Rs.then, RSt.seq, asgn, asSeq, asT, asL, asI, setAll, dAdd_int, dSub_int, dLt_int, dLe_int, dGt_int, dGe_int, dNeg_int, dEq_int, dNe_int, dEq_bl, dNe_bl, dIsN_non, dIsN_int, dIsN_str, dIsN_lst, dIsN_tup, sizeLine_v, e3, e4, e7, dMod_pos, dMulI_sm, s1, s2, aD, acct]
/-! ### what is valid -/
theorem ev_is_between {i a b : Int} (S : Sto) : m_is_between [.int i, .int a, .int b] S = .ok (.bl (decide (a ≤ i) && decide (i ≤ b))) S := by
  refine trim_pure (J := []) ?_ rfl
  cases h : decide (a ≤ i) <;> simp [b_is_between, a_runB, a_sSeq, a_sAsg, a_sRet, a_sRetN, a_sExp, a_sIf, a_sNil, a_sRaise, a_sFor, a_mBin, a_mUn, a_mVar, a_mC, opt, a_mNil, a_mCons, a_mOpN, asB, a_mTest, a_mAnd, a_mOr, a_mNot, a_mAndV, a_mOrV, a_mNotV, a_mIf, a_mChain, a_mTup, a_mFrz, a_mNew, a_lDis, a_mCall, a_mMeth, a_mIsi, a_mFld, tyD, isB, a_mPart, a_mNoPart, Rs.bind, Rs.then, RSt.seq, asgn, asSeq, asT, asL, asI, setAll, dAdd_int, dSub_int, dLt_int, dLe_int, dGt_int, dGe_int, dNeg_int, dEq_int, dNe_int, dEq_bl, dNe_bl, dIsN_non, dIsN_int, dIsN_str, dIsN_lst, dIsN_tup, sizeLine_v, h]
theorem ev_is_figures {x : Str} (S : Sto) (h : FOk x) : m_is_figures [.str x] S = .ok (.bl true) S := by
  refine gv_trim rfl ?_ rfl
  have l0 : x.length ≤ sizeLine := by have := h.2.1; rw [sizeLine_v]; omega
  refine gv_nx (en1 := [some (.str x), none]) (S1 := S) ?_ (gv_ret (J := []) ?_)
  · have l1 : (1 : Int) ≤ (x.length : Int) := by have := h.1; omega
    have l2 : (x.length : Int) ≤ 15 := by have := h.2.1; omega
    have l3 : x.length ≤ 16777216 := by have := h.2.1; omega
    simp [a_runB, a_sSeq, a_sAsg, a_sRet, a_sRetN, a_sExp, a_sIf, a_sNil, a_sRaise, a_sFor, a_mBin, a_mUn, a_mVar, a_mC, opt, a_mNil, a_mCons, a_mOpN, asB, a_mTest, a_mAnd, a_mOr, a_mNot, a_mAndV, a_mOrV, a_mNotV, a_mIf, a_mChain, a_mTup, a_mFrz, a_mNew, a_lDis, a_mCall, a_mMeth, a_mIsi, a_mFld, tyD, isB, a_mPart, a_mNoPart, Rs.bind, Rs.then, RSt.seq, asgn, asSeq, asT, asL, asI, setAll, dAdd_int, dSub_int, dLt_int, dLe_int, dGt_int, dGe_int, dNeg_int, dEq_int, dNe_int, dEq_bl, dNe_bl, dIsN_non, dIsN_int, dIsN_str, dIsN_lst, dIsN_tup, sizeLine_v, oLen, l1, l2, l3]
  · have lx : x.cps.toList.length ≤ sizeLine := by
      have e : x.cps.toList.length = x.length := by simp [Str.length]
      omega
    rw [all_comp x.cps.toList (fun c => D.str ⟨#[c]⟩) (fun c => decide (c ∈ (Str.ofString "0123456789").cps.toList)) (iSeq_str rfl) rfl rfl lx fun c hc => ⟨_, rfl, mIn_sign rfl rfl⟩, all_true]
    · simp
    · intro c hc
      have := h.2.2 c hc
      have e : (Str.ofString "0123456789").cps.toList = [48, 49, 50, 51, 52, 53, 54, 55, 56, 57] := by decide +kernel
      rw [e]
      simp
      omega
structure ROk (rs : List (Int × Int)) : Prop where
  l : 1 ≤ rs.length ∧ rs.length ≤ 24
  z : rs.head?.map (·.1) = some 0
  s : (rs.map (·.1)).Pairwise (· < ·)
  r : ∀ r ∈ rs, (0 ≤ r.1 ∧ r.1 < 86400) ∧ 0 ≤ r.2 ∧ r.2 ≤ 9
theorem ev_is_row {r : Int × Int} (S : Sto) (h : (0 ≤ r.1 ∧ r.1 < 86400) ∧ 0 ≤ r.2 ∧ r.2 ≤ 9) : m_is_row [rowD r] S = .ok (.bl true) S := by
  refine trim_pure (J := []) ?_ rfl
  have e1 : dIx (.tup [.int r.1, .int r.2]) (.int 0) S = some (.int r.1) := rfl
  have e2 : dIx (.tup [.int r.1, .int r.2]) (.int 1) S = some (.int r.2) := rfl
  have h1 : r.1 ≤ 86399 := by omega
  simp [b_is_row, a_runB, a_sSeq, a_sAsg, a_sRet, a_sRetN, a_sExp, a_sIf, a_sNil, a_sRaise, a_sFor, a_mBin, a_mUn, a_mVar, a_mC, opt, a_mNil, a_mCons, a_mOpN, asB, a_mTest, a_mAnd, a_mOr, a_mNot, a_mAndV, a_mOrV, a_mNotV, a_mIf, a_mChain, a_mTup, a_mFrz, a_mNew, a_lDis, a_mCall, a_mMeth, a_mIsi, a_mFld, tyD, isB, a_mPart, a_mNoPart, Rs.bind, Rs.then, RSt.seq, asgn, asSeq, asT, asL, asI, setAll, dAdd_int, dSub_int, dLt_int, dLe_int, dGt_int, dGe_int, dNeg_int, dEq_int, dNe_int, dEq_bl, dNe_bl, dIsN_non, dIsN_int, dIsN_str, dIsN_lst, dIsN_tup, sizeLine_v, rowD, oLen, e1, e2, ev_is_between, h, h1]
theorem pair_zip {α : Type} {R : α → α → Prop} : ∀ {l : List α}, l.Pairwise R → ∀ p ∈ l.zip l.tail, R p.1 p.2
  | [], _, p, h => by simp at h
  | [x], _, p, h => by simp at h
  | x :: y :: l, hl, p, h => by
    obtain ⟨h1, h2⟩ := List.pairwise_cons.mp hl
    rcases List.mem_cons.mp h with e | h
    · rw [e]; exact h1 y List.mem_cons_self
    · exact pair_zip h2 p h
theorem ev_are_rows {rs : List (Int × Int)} (S : Sto) (h : ROk rs) : m_are_rows [.lst (rs.map rowD)] S = .ok (.bl true) S := by
  refine gv_trim rfl ?_ rfl
  have hz : rs.length ≤ sizeLine := by have := h.l; rw [sizeLine_v]; omega
  have e1 : mOpN oAll (mCons (mFrz (lComp (iSeq (mVar 0)) (.nm 1) (mYes) (mCall m_is_row [] (mCons (mVar 1) (mNil))) [1])) (mNil)) [some (.lst (rs.map rowD)), none, none, none] S = .ok (.bl true) S := by
    rw [all_comp rs rowD (fun _ => true) (iSeq_lst rfl) rfl rfl hz fun r hr => ⟨_, rfl, ?_⟩, all_true fun _ _ => rfl]
    have := ev_is_row S (h.r r hr)
    simp [a_runB, a_sSeq, a_sAsg, a_sRet, a_sRetN, a_sExp, a_sIf, a_sNil, a_sRaise, a_sFor, a_mBin, a_mUn, a_mVar, a_mC, opt, a_mNil, a_mCons, a_mOpN, asB, a_mTest, a_mAnd, a_mOr, a_mNot, a_mAndV, a_mOrV, a_mNotV, a_mIf, a_mChain, a_mTup, a_mFrz, a_mNew, a_lDis, a_mCall, a_mMeth, a_mIsi, a_mFld, tyD, isB, a_mPart, a_mNoPart, Rs.bind, Rs.then, RSt.seq, asgn, asSeq, asT, asL, asI, setAll, dAdd_int, dSub_int, dLt_int, dLe_int, dGt_int, dGe_int, dNeg_int, dEq_int, dNe_int, dEq_bl, dNe_bl, dIsN_non, dIsN_int, dIsN_str, dIsN_lst, dIsN_tup, sizeLine_v, wipeD, this]
  have l1 : (1 : Int) ≤ (rs.length : Int) := by have := h.l; omega
  have l2 : (rs.length : Int) ≤ 24 := by have := h.l; omega
  refine gv_nx (en1 := [some (.lst (rs.map rowD)), none, none, none]) (S1 := S) ?_ (gv_ret (J := []) ?_)
  · simp [↓e1, a_runB, a_sSeq, a_sAsg, a_sRet, a_sRetN, a_sExp, a_sIf, a_sNil, a_sRaise, a_sFor, a_mBin, a_mUn, a_mVar, a_mC, opt, a_mNil, a_mCons, a_mOpN, asB, a_mTest, a_mAnd, a_mOr, a_mNot, a_mAndV, a_mOrV, a_mNotV, a_mIf, a_mChain, a_mTup, a_mFrz, a_mNew, a_lDis, a_mCall, a_mMeth, a_mIsi, a_mFld, tyD, isB, a_mPart, a_mNoPart, Rs.bind, Rs.then, RSt.seq, asgn, asSeq, asT, asL, asI, setAll, dAdd_int, dSub_int, dLt_int, dLe_int, dGt_int, dGe_int, dNeg_int, dEq_int, dNe_int, dEq_bl, dNe_bl, dIsN_non, dIsN_int, dIsN_str, dIsN_lst, dIsN_tup, sizeLine_v, oLen, l1, l2]
  · have e2 : mOpN oAll (mCons (mFrz (lComp (iZipD (mCons (mVar 0) (mCons (mSl (mVar 0) (mPart (mC (.int 1))) (mNoPart)) (mNil)))) (.tp [2, 3]) (mYes) (mBin dLt (mBin dIx (mVar 2) (mC (.int 0))) (mBin dIx (mVar 3) (mC (.int 0)))) [2, 3])) (mNil)) [some (.lst (rs.map rowD)), none, none, none] S = .ok (.bl true) S := by
      have e3 : cutD (rs.map rowD) (some 1) none = rs.tail.map rowD := by
        unfold cutD
        cases rs with
        | nil => rfl
        | cons r rs =>
          have : HT.sIx (List.map rowD (r :: rs)).length 0 (some 1) = 1 := by unfold HT.sIx; simp
          rw [this]
          unfold HT.sIx
          simp [List.take_of_length_le]
      rw [all_comp (rs.zip rs.tail) (fun p => D.tup [rowD p.1, rowD p.2]) (fun p => decide (p.1.1 < p.2.1)) (iZip_lst (ds := rs.map rowD) (es := rs.tail.map rowD) (by simp [a_runB, a_sSeq, a_sAsg, a_sRet, a_sRetN, a_sExp, a_sIf, a_sNil, a_sRaise, a_sFor, a_mBin, a_mUn, a_mVar, a_mC, opt, a_mNil, a_mCons, a_mOpN, asB, a_mTest, a_mAnd, a_mOr, a_mNot, a_mAndV, a_mOrV, a_mNotV, a_mIf, a_mChain, a_mTup, a_mFrz, a_mNew, a_lDis, a_mCall, a_mMeth, a_mIsi, a_mFld, tyD, isB, a_mPart, a_mNoPart, Rs.bind, Rs.then, RSt.seq, asgn, asSeq, asT, asL, asI, setAll, dAdd_int, dSub_int, dLt_int, dLe_int, dGt_int, dGe_int, dNeg_int, dEq_int, dNe_int, dEq_bl, dNe_bl, dIsN_non, dIsN_int, dIsN_str, dIsN_lst, dIsN_tup, sizeLine_v, a_mSl, dSl, e3])) (zipD_map _ _ _ _) rfl (by rw [sizeLine_v]; have := h.l; simp; omega) fun p hp => ⟨_, rfl, ?_⟩]
      · have s : rs.Pairwise (fun a b => a.1 < b.1) := List.pairwise_map.mp h.s
        rw [all_true fun p hp => decide_eq_true (pair_zip s p hp)]
      · have e4 : dIx (rowD p.1) (.int 0) S = some (.int p.1.1) := rfl
        have e5 : dIx (rowD p.2) (.int 0) S = some (.int p.2.1) := rfl
        simp [a_runB, a_sSeq, a_sAsg, a_sRet, a_sRetN, a_sExp, a_sIf, a_sNil, a_sRaise, a_sFor, a_mBin, a_mUn, a_mVar, a_mC, opt, a_mNil, a_mCons, a_mOpN, asB, a_mTest, a_mAnd, a_mOr, a_mNot, a_mAndV, a_mOrV, a_mNotV, a_mIf, a_mChain, a_mTup, a_mFrz, a_mNew, a_lDis, a_mCall, a_mMeth, a_mIsi, a_mFld, tyD, isB, a_mPart, a_mNoPart, Rs.bind, Rs.then, RSt.seq, asgn, asSeq, asT, asL, asI, setAll, dAdd_int, dSub_int, dLt_int, dLe_int, dGt_int, dGe_int, dNeg_int, dEq_int, dNe_int, dEq_bl, dNe_bl, dIsN_non, dIsN_int, dIsN_str, dIsN_lst, dIsN_tup, sizeLine_v, wipeD, e4, e5]
    have e6 : mBin dIx (mBin dIx (mVar 0) (mC (.int 0))) (mC (.int 0)) [some (.lst (rs.map rowD)), none, none, none] S = .ok (.int 0) S := by
      cases rs with
      | nil => have := h.l; simp at this
      | cons r rs =>
        have e0 : r.1 = 0 := by have := h.z; simpa using this
        have e7 : dIx (.lst (rowD r :: rs.map rowD)) (.int 0) S = some (rowD r) := dIx_lst (Mi.atI_nat (j := 0) rfl)
        have e8 : dIx (rowD r) (.int 0) S = some (.int r.1) := rfl
        simp [a_runB, a_sSeq, a_sAsg, a_sRet, a_sRetN, a_sExp, a_sIf, a_sNil, a_sRaise, a_sFor, a_mBin, a_mUn, a_mVar, a_mC, opt, a_mNil, a_mCons, a_mOpN, asB, a_mTest, a_mAnd, a_mOr, a_mNot, a_mAndV, a_mOrV, a_mNotV, a_mIf, a_mChain, a_mTup, a_mFrz, a_mNew, a_lDis, a_mCall, a_mMeth, a_mIsi, a_mFld, tyD, isB, a_mPart, a_mNoPart, Rs.bind, Rs.then, RSt.seq, asgn, asSeq, asT, asL, asI, setAll, dAdd_int, dSub_int, dLt_int, dLe_int, dGt_int, dGe_int, dNeg_int, dEq_int, dNe_int, dEq_bl, dNe_bl, dIsN_non, dIsN_int, dIsN_str, dIsN_lst, dIsN_tup, sizeLine_v, e7, e8, e0]
    have e9 : dEq (.int 0) (.int 0) S = some (.bl true) := by rw [dEq_int]; rfl
    rw [a_mAndV, a_mBin, e6]
    simp [↓e2, a_mC, Rs.bind, opt, e9]
structure LOk (l : List Int) : Prop where
  nd : l.Nodup
  r : ∀ d ∈ l, 0 ≤ d ∧ d ≤ 6
  len : l.length ≤ 7
theorem ev_are_days {l : List Int} (S : Sto) (h : LOk l) : m_are_days [.lst (l.map .int)] S = .ok (.bl true) S := by
  refine gv_trim rfl ?_ rfl
  have hz := h.len
  have e1 : mOpN oAll (mCons (mFrz (lComp (iSeq (mVar 0)) (.nm 1) (mYes) (mCall m_is_between [] (mCons (mVar 1) (mCons (mC (.int 0)) (mCons (mBin dSub (mC (.int 7)) (mC (.int 1))) (mNil))))) [1])) (mNil)) [some (.lst (l.map .int)), none] S = .ok (.bl true) S := by
    rw [all_comp l D.int (fun d => decide (0 ≤ d) && decide (d ≤ 6)) (iSeq_lst rfl) rfl rfl (by rw [sizeLine_v]; omega) fun d hd => ⟨_, rfl, ?_⟩, all_true]
    · intro d hd
      have := h.r d hd
      simp [this]
    · simp [a_runB, a_sSeq, a_sAsg, a_sRet, a_sRetN, a_sExp, a_sIf, a_sNil, a_sRaise, a_sFor, a_mBin, a_mUn, a_mVar, a_mC, opt, a_mNil, a_mCons, a_mOpN, asB, a_mTest, a_mAnd, a_mOr, a_mNot, a_mAndV, a_mOrV, a_mNotV, a_mIf, a_mChain, a_mTup, a_mFrz, a_mNew, a_lDis, a_mCall, a_mMeth, a_mIsi, a_mFld, tyD, isB, a_mPart, a_mNoPart, Rs.bind, Rs.then, RSt.seq, asgn, asSeq, asT, asL, asI, setAll, dAdd_int, dSub_int, dLt_int, dLe_int, dGt_int, dGe_int, dNeg_int, dEq_int, dNe_int, dEq_bl, dNe_bl, dIsN_non, dIsN_int, dIsN_str, dIsN_lst, dIsN_tup, sizeLine_v, wipeD, ev_is_between]
  have e2 : mLenSet (mCons (mVar 0) (mNil)) [some (.lst (l.map .int)), none] S = .ok (.int (l.length : Nat)) S := lenSet_nodup rfl h.nd (by omega)
  refine gv_nx (en1 := [some (.lst (l.map .int)), none]) (S1 := S) ?_ (gv_ret (J := []) ?_)
  · simp [↓e1, a_runB, a_sSeq, a_sAsg, a_sRet, a_sRetN, a_sExp, a_sIf, a_sNil, a_sRaise, a_sFor, a_mBin, a_mUn, a_mVar, a_mC, opt, a_mNil, a_mCons, a_mOpN, asB, a_mTest, a_mAnd, a_mOr, a_mNot, a_mAndV, a_mOrV, a_mNotV, a_mIf, a_mChain, a_mTup, a_mFrz, a_mNew, a_lDis, a_mCall, a_mMeth, a_mIsi, a_mFld, tyD, isB, a_mPart, a_mNoPart, Rs.bind, Rs.then, RSt.seq, asgn, asSeq, asT, asL, asI, setAll, dAdd_int, dSub_int, dLt_int, dLe_int, dGt_int, dGe_int, dNeg_int, dEq_int, dNe_int, dEq_bl, dNe_bl, dIsN_non, dIsN_int, dIsN_str, dIsN_lst, dIsN_tup, sizeLine_v]
  · simp [a_runB, a_sSeq, a_sAsg, a_sRet, a_sRetN, a_sExp, a_sIf, a_sNil, a_sRaise, a_sFor, a_mBin, a_mUn, a_mVar, a_mC, opt, a_mNil, a_mCons, a_mOpN, asB, a_mTest, a_mAnd, a_mOr, a_mNot, a_mAndV, a_mOrV, a_mNotV, a_mIf, a_mChain, a_mTup, a_mFrz, a_mNew, a_lDis, a_mCall, a_mMeth, a_mIsi, a_mFld, tyD, isB, a_mPart, a_mNoPart, Rs.bind, Rs.then, RSt.seq, asgn, asSeq, asT, asL, asI, setAll, dAdd_int, dSub_int, dLt_int, dLe_int, dGt_int, dGe_int, dNeg_int, dEq_int, dNe_int, dEq_bl, dNe_bl, dIsN_non, dIsN_int, dIsN_str, dIsN_lst, dIsN_tup, sizeLine_v, e2, oLen]
def PrOk (l : List Int) : Prop := l.length = 10 ∧ ∀ p ∈ l, 0 ≤ p ∧ p ≤ 1000000000
theorem ev_are_prices {l : List Int} (S : Sto) (h : PrOk l) : m_are_prices [.lst (l.map .int)] S = .ok (.bl true) S := by
  refine gv_trim rfl ?_ rfl
  have e1 : mOpN oAll (mCons (mFrz (lComp (iSeq (mVar 0)) (.nm 1) (mYes) (mCall m_is_between [] (mCons (mVar 1) (mCons (mC (.int 0)) (mCons (mC (.int 1000000000)) (mNil))))) [1])) (mNil)) [some (.lst (l.map .int)), none] S = .ok (.bl true) S := by
    rw [all_comp l D.int (fun d => decide (0 ≤ d) && decide (d ≤ 1000000000)) (iSeq_lst rfl) rfl rfl (by rw [sizeLine_v, h.1]; omega) fun d hd => ⟨_, rfl, ?_⟩, all_true]
    · intro d hd
      have := h.2 d hd
      simp [this]
    · simp [a_runB, a_sSeq, a_sAsg, a_sRet, a_sRetN, a_sExp, a_sIf, a_sNil, a_sRaise, a_sFor, a_mBin, a_mUn, a_mVar, a_mC, opt, a_mNil, a_mCons, a_mOpN, asB, a_mTest, a_mAnd, a_mOr, a_mNot, a_mAndV, a_mOrV, a_mNotV, a_mIf, a_mChain, a_mTup, a_mFrz, a_mNew, a_lDis, a_mCall, a_mMeth, a_mIsi, a_mFld, tyD, isB, a_mPart, a_mNoPart, Rs.bind, Rs.then, RSt.seq, asgn, asSeq, asT, asL, asI, setAll, dAdd_int, dSub_int, dLt_int, dLe_int, dGt_int, dGe_int, dNeg_int, dEq_int, dNe_int, dEq_bl, dNe_bl, dIsN_non, dIsN_int, dIsN_str, dIsN_lst, dIsN_tup, sizeLine_v, wipeD, ev_is_between]
  refine gv_nx (en1 := [some (.lst (l.map .int)), none]) (S1 := S) ?_ (gv_ret (J := []) (e1.trans (by simp)))
  simp [a_runB, a_sSeq, a_sAsg, a_sRet, a_sRetN, a_sExp, a_sIf, a_sNil, a_sRaise, a_sFor, a_mBin, a_mUn, a_mVar, a_mC, opt, a_mNil, a_mCons, a_mOpN, asB, a_mTest, a_mAnd, a_mOr, a_mNot, a_mAndV, a_mOrV, a_mNotV, a_mIf, a_mChain, a_mTup, a_mFrz, a_mNew, a_lDis, a_mCall, a_mMeth, a_mIsi, a_mFld, tyD, isB, a_mPart, a_mNoPart, Rs.bind, Rs.then, RSt.seq, asgn, asSeq, asT, asL, asI, setAll, dAdd_int, dSub_int, dLt_int, dLe_int, dGt_int, dGe_int, dNeg_int, dEq_int, dNe_int, dEq_bl, dNe_bl, dIsN_non, dIsN_int, dIsN_str, dIsN_lst, dIsN_tup, sizeLine_v, oLen, h.1]
theorem ev_need_prices {l : List Int} (S : Sto) (h : PrOk l) : m_need_prices [.lst (l.map .int)] S = .ok .non S := by
  refine gn_trim rfl ⟨[some (.lst (l.map .int))], [], ?_⟩
  have e := ev_are_prices S h
  simp [b_need_prices, a_runB, a_sSeq, a_sAsg, a_sRet, a_sRetN, a_sExp, a_sIf, a_sNil, a_sRaise, a_sFor, a_mBin, a_mUn, a_mVar, a_mC, opt, a_mNil, a_mCons, a_mOpN, asB, a_mTest, a_mAnd, a_mOr, a_mNot, a_mAndV, a_mOrV, a_mNotV, a_mIf, a_mChain, a_mTup, a_mFrz, a_mNew, a_lDis, a_mCall, a_mMeth, a_mIsi, a_mFld, tyD, isB, a_mPart, a_mNoPart, Rs.bind, Rs.then, RSt.seq, asgn, asSeq, asT, asL, asI, setAll, dAdd_int, dSub_int, dLt_int, dLe_int, dGt_int, dGe_int, dNeg_int, dEq_int, dNe_int, dEq_bl, dNe_bl, dIsN_non, dIsN_int, dIsN_str, dIsN_lst, dIsN_tup, sizeLine_v, e]
theorem ev_need_time {t : Int} (S : Sto) (h : 0 ≤ t ∧ t ≤ 1000000000000000) : m_need_time [.int t] S = .ok .non S := by
  refine gn_trim rfl ⟨[some (.int t)], [], ?_⟩
  simp [b_need_time, a_runB, a_sSeq, a_sAsg, a_sRet, a_sRetN, a_sExp, a_sIf, a_sNil, a_sRaise, a_sFor, a_mBin, a_mUn, a_mVar, a_mC, opt, a_mNil, a_mCons, a_mOpN, asB, a_mTest, a_mAnd, a_mOr, a_mNot, a_mAndV, a_mOrV, a_mNotV, a_mIf, a_mChain, a_mTup, a_mFrz, a_mNew, a_lDis, a_mCall, a_mMeth, a_mIsi, a_mFld, tyD, isB, a_mPart, a_mNoPart, Rs.bind, Rs.then, RSt.seq, asgn, asSeq, asT, asL, asI, setAll, dAdd_int, dSub_int, dLt_int, dLe_int, dGt_int, dGe_int, dNeg_int, dEq_int, dNe_int, dEq_bl, dNe_bl, dIsN_non, dIsN_int, dIsN_str, dIsN_lst, dIsN_tup, sizeLine_v, ev_is_between, h]
theorem rows_ok (c : Int) : ROk (rows c) := by
  obtain ⟨h1, h2⟩ := begs_ok c
  have p := sortI_perm (begs c)
  have s := sortI_lt h1.nd
  have e : (rows c).map (·.1) = sortI (begs c) := by
    unfold rows
    rw [List.map_map]
    have : ((fun x : Int × Int => x.1) ∘ fun p : Int × Nat => (p.1, mix c (80 + (p.2 : Int)) % 10)) = Prod.fst := rfl
    rw [this, List.zipIdx_map_fst]
  have hl : (rows c).length = (begs c).length := by rw [← p.length_eq, ← e, List.length_map]
  have h0 : 0 < (begs c).length := List.length_pos_of_mem h1.z
  refine ⟨by omega, ?_, by rw [e]; exact s, fun r hr => ?_⟩
  · have : (rows c).head?.map (·.1) = ((rows c).map (·.1)).head? := by cases rows c <;> rfl
    rw [this, e]
    have hz : 0 ∈ sortI (begs c) := p.mem_iff.mpr h1.z
    cases q : sortI (begs c) with
    | nil => rw [q] at hz; cases hz
    | cons x xs =>
      rw [q] at hz s
      have hx : 0 ≤ x := (h1.r x (p.mem_iff.mp (by rw [q]; exact List.mem_cons_self))).1
      rcases List.mem_cons.mp hz with e | hz
      · rw [← e]; rfl
      · have := (List.pairwise_cons.mp s).1 0 hz
        omega
  · have hm : r.1 ∈ sortI (begs c) := by rw [← e]; exact List.mem_map_of_mem hr
    have := h1.r r.1 (p.mem_iff.mp hm)
    unfold rows at hr
    obtain ⟨q, _, rfl⟩ := List.mem_map.mp hr
    dsimp only at this ⊢
    omega
theorem lows_ok (c : Int) : LOk (lows c) := by
  unfold lows
  refine ⟨?_, fun d hd => ?_, by rw [List.length_map]; exact Nat.le_trans (List.length_filter_le _ _) (by simp)⟩
  · refine List.Pairwise.map (R := fun a b : Nat => a ≠ b) _ (fun a b h e => h (by omega)) (List.Pairwise.filter _ List.nodup_range)
  · obtain ⟨k, hk, rfl⟩ := List.mem_map.mp hd
    have := List.mem_range.mp (List.mem_filter.mp hk).1
    omega
theorem low_ok {c : Int} {l : List Int} (h : low c = some l) : LOk l := by
  unfold low at h
  split at h
  · cases h
  · split at h
    · cases h; exact ⟨List.nodup_nil, by simp, by simp⟩
    · split at h
      · cases h; exact lows_ok c
      · cases h
        exact ⟨List.pairwise_reverse.mpr ((lows_ok c).nd.imp Ne.symm), fun d hd => (lows_ok c).r d (List.mem_reverse.mp hd), by rw [List.length_reverse]; exact (lows_ok c).len⟩
/-! ### bands -/
def fstI (rs : List (Int × Int)) : List Int := rs.map fun r => r.1
def sndI (rs : List (Int × Int)) : List Int := rs.map fun r => r.2
structure Bd where
  rs : List (Int × Int)
  low : List Int
def Bd.begins (b : Bd) : List Int := fstI b.rs
def Bd.ends (b : Bd) : List Int := b.begins.tail ++ [86400]
def Bd.kinds (b : Bd) : List Int := sndI b.rs
def bF (b : Bd) : List (Nat × D) := [(1, .lst (b.begins.map .int)), (2, .lst (b.ends.map .int)), (3, .lst (b.kinds.map .int)), (4, .lst (b.low.map .int))]
def bD (b : Bd) : D := .obj 7 (bF b)
theorem cut1 {α : Type} (f : α → D) (l : List α) : cutD (l.map f) (some 1) none = l.tail.map f := by
  unfold cutD
  cases l with
  | nil => rfl
  | cons r rs =>
    have : HT.sIx (List.map f (r :: rs)).length 0 (some 1) = 1 := by unfold HT.sIx; simp
    rw [this]
    unfold HT.sIx
    simp [List.take_of_length_le]
theorem ev_Bands_init {rs : List (Int × Int)} {l : List Int} {ld : D} (S : Sto) (h : ROk rs) (hl : LOk l) (hd : (ld = .non ∧ l = []) ∨ ld = .lst (l.map .int)) :
    m_Bands_init [.ref S.length, .lst (rs.map rowD), ld] (S ++ [.ins 7 []]) = .ok .non (S ++ [.ins 7 (bF ⟨rs, l⟩)]) := by
  have e1 : sIf (mTest (mBin dIsN (mVar 2) (mC .non))) (sAsg (.nm 2) (mFrz (lDis (mNil)))) (sNil) [some (.ref S.length), some (.lst (rs.map rowD)), some ld, none, none] (S ++ [.ins 7 []]) = .nx [some (.ref S.length), some (.lst (rs.map rowD)), some (.lst (l.map .int)), none, none] (S ++ [.ins 7 []]) := by
    rcases hd with ⟨rfl, rfl⟩ | rfl
    · simp [a_runB, a_sSeq, a_sAsg, a_sRet, a_sRetN, a_sExp, a_sIf, a_sNil, a_sRaise, a_sFor, a_mBin, a_mUn, a_mVar, a_mC, opt, a_mNil, a_mCons, a_mOpN, asB, a_mTest, a_mAnd, a_mOr, a_mNot, a_mAndV, a_mOrV, a_mNotV, a_mIf, a_mChain, a_mTup, a_mFrz, a_mNew, a_lDis, a_mCall, a_mMeth, a_mIsi, a_mFld, tyD, isB, a_mPart, a_mNoPart, Rs.bind, Rs.then, RSt.seq, asgn, asSeq, asT, asL, asI, setAll, dAdd_int, dSub_int, dLt_int, dLe_int, dGt_int, dGe_int, dNeg_int, dEq_int, dNe_int, dEq_bl, dNe_bl, dIsN_non, dIsN_int, dIsN_str, dIsN_lst, dIsN_tup, sizeLine_v]
    · simp [a_runB, a_sSeq, a_sAsg, a_sRet, a_sRetN, a_sExp, a_sIf, a_sNil, a_sRaise, a_sFor, a_mBin, a_mUn, a_mVar, a_mC, opt, a_mNil, a_mCons, a_mOpN, asB, a_mTest, a_mAnd, a_mOr, a_mNot, a_mAndV, a_mOrV, a_mNotV, a_mIf, a_mChain, a_mTup, a_mFrz, a_mNew, a_lDis, a_mCall, a_mMeth, a_mIsi, a_mFld, tyD, isB, a_mPart, a_mNoPart, Rs.bind, Rs.then, RSt.seq, asgn, asSeq, asT, asL, asI, setAll, dAdd_int, dSub_int, dLt_int, dLe_int, dGt_int, dGe_int, dNeg_int, dEq_int, dNe_int, dEq_bl, dNe_bl, dIsN_non, dIsN_int, dIsN_str, dIsN_lst, dIsN_tup, sizeLine_v]
  have e2 := ev_are_rows (S ++ [.ins 7 []]) h
  have e3 := ev_are_days (S ++ [.ins 7 []]) hl
  have hz : rs.length ≤ sizeLine := by have := h.l; rw [sizeLine_v]; omega
  have c1 : ∀ fs : List (Nat × D), lComp (iSeq (mVar 1)) (.tp [3, 4]) (mYes) (mVar 3) [3, 4] [some (.ref S.length), some (.lst (rs.map rowD)), some (.lst (l.map .int)), none, none] (S ++ [.ins 7 fs]) = .ok ((fstI rs).map .int) (S ++ [.ins 7 fs]) := fun fs => by
    rw [lComp_map rs rowD (fun r => D.int r.1) (iSeq_lst rfl) rfl rfl hz fun r hr => ⟨_, rfl, rfl⟩]
    simp [fstI, sndI]
  have c2 : ∀ fs : List (Nat × D), lComp (iSeq (mVar 1)) (.tp [3, 4]) (mYes) (mVar 4) [3, 4] [some (.ref S.length), some (.lst (rs.map rowD)), some (.lst (l.map .int)), none, none] (S ++ [.ins 7 fs]) = .ok ((sndI rs).map .int) (S ++ [.ins 7 fs]) := fun fs => by
    rw [lComp_map rs rowD (fun r => D.int r.2) (iSeq_lst rfl) rfl rfl hz fun r hr => ⟨_, rfl, rfl⟩]
    simp [fstI, sndI]
  have e4 : sIf (mOr (mNot (mTest (mCall m_are_rows [] (mCons (mVar 1) (mNil))))) (mNot (mTest (mCall m_are_days [] (mCons (mVar 2) (mNil)))))) (sRaise 4) (sNil) [some (.ref S.length), some (.lst (rs.map rowD)), some (.lst (l.map .int)), none, none] (S ++ [.ins 7 []]) = .nx [some (.ref S.length), some (.lst (rs.map rowD)), some (.lst (l.map .int)), none, none] (S ++ [.ins 7 []]) := by
    simp [a_runB, a_sSeq, a_sAsg, a_sRet, a_sRetN, a_sExp, a_sIf, a_sNil, a_sRaise, a_sFor, a_mBin, a_mUn, a_mVar, a_mC, opt, a_mNil, a_mCons, a_mOpN, asB, a_mTest, a_mAnd, a_mOr, a_mNot, a_mAndV, a_mOrV, a_mNotV, a_mIf, a_mChain, a_mTup, a_mFrz, a_mNew, a_lDis, a_mCall, a_mMeth, a_mIsi, a_mFld, tyD, isB, a_mPart, a_mNoPart, Rs.bind, Rs.then, RSt.seq, asgn, asSeq, asT, asL, asI, setAll, dAdd_int, dSub_int, dLt_int, dLe_int, dGt_int, dGe_int, dNeg_int, dEq_int, dNe_int, dEq_bl, dNe_bl, dIsN_non, dIsN_int, dIsN_str, dIsN_lst, dIsN_tup, sizeLine_v, e2, e3]
  have e5 : sFldS [7] 1 (mVar 0) (mFrz (lComp (iSeq (mVar 1)) (.tp [3, 4]) (mYes) (mVar 3) [3, 4])) [some (.ref S.length), some (.lst (rs.map rowD)), some (.lst (l.map .int)), none, none] (S ++ [.ins 7 []]) = .nx [some (.ref S.length), some (.lst (rs.map rowD)), some (.lst (l.map .int)), none, none] (S ++ [.ins 7 [(1, .lst ((fstI rs).map .int))]]) :=
    fld_last (cl := [7]) (c := 7) (i := 1) (S := S) (x := .lst ((fstI rs).map .int)) (fs := []) (by rw [a_mFrz, c1]; rfl) (by rfl) (by rfl) (by simp)
  have f1 : mFld 1 (mVar 0) [some (.ref S.length), some (.lst (rs.map rowD)), some (.lst (l.map .int)), none, none] (S ++ [.ins 7 [(1, .lst ((fstI rs).map .int))]]) = .ok (.lst ((fstI rs).map .int)) (S ++ [.ins 7 [(1, .lst ((fstI rs).map .int))]]) := fld_ref rfl get_last rfl
  have e6 : sFldS [7] 2 (mVar 0) (mBin dAdd (mSl (mFld 1 (mVar 0)) (mPart (mC (.int 1))) (mNoPart)) (mFrz (lDis (mCons (mC (.int 86400)) (mNil))))) [some (.ref S.length), some (.lst (rs.map rowD)), some (.lst (l.map .int)), none, none] (S ++ [.ins 7 [(1, .lst ((fstI rs).map .int))]]) = .nx [some (.ref S.length), some (.lst (rs.map rowD)), some (.lst (l.map .int)), none, none] (S ++ [.ins 7 [(1, .lst ((fstI rs).map .int)), (2, .lst (((fstI rs).tail ++ [86400]).map .int))]]) := by
    refine Eq.trans (fld_last (cl := [7]) (c := 7) (i := 2) (S := S) (x := .lst (((fstI rs).tail ++ [86400]).map .int)) (fs := [(1, .lst ((fstI rs).map .int))]) ?_ (by rfl) (by rfl) (by simp)) rfl
    have z : ∀ S2 : Sto, dAdd (D.lst ((fstI rs).tail.map D.int)) (D.lst [D.int 86400]) S2 = some (D.lst (((fstI rs).tail ++ [86400]).map D.int)) := fun S2 => by
      show (if _ then some (D.lst (((fstI rs).tail.map D.int) ++ [D.int 86400])) else none) = _
      rw [if_pos (by rw [sizeLine_v]; have := h.l; simp [fstI]; omega)]
      simp
    rw [a_mBin, a_mSl, f1]
    simp only [Rs.bind, a_mPart, a_mC, a_mNoPart, dSl, asL, cut1, a_mFrz, a_lDis, a_mCons, a_mNil]
    have z := z
    simp only [List.map_append, List.map_cons, List.map_nil, List.map_tail] at z
    simp [Rs.bind, sizeLine_v, z, opt]
  have e7 : sFldS [7] 3 (mVar 0) (mFrz (lComp (iSeq (mVar 1)) (.tp [3, 4]) (mYes) (mVar 4) [3, 4])) [some (.ref S.length), some (.lst (rs.map rowD)), some (.lst (l.map .int)), none, none] (S ++ [.ins 7 [(1, .lst ((fstI rs).map .int)), (2, .lst (((fstI rs).tail ++ [86400]).map .int))]]) = .nx [some (.ref S.length), some (.lst (rs.map rowD)), some (.lst (l.map .int)), none, none] (S ++ [.ins 7 [(1, .lst ((fstI rs).map .int)), (2, .lst (((fstI rs).tail ++ [86400]).map .int)), (3, .lst ((sndI rs).map .int))]]) :=
    fld_last (cl := [7]) (c := 7) (i := 3) (S := S) (x := .lst ((sndI rs).map .int)) (fs := [(1, .lst ((fstI rs).map .int)), (2, .lst (((fstI rs).tail ++ [86400]).map .int))]) (by rw [a_mFrz, c2]; rfl) (by rfl) (by rfl) (by simp)
  have e8 : sFldS [7] 4 (mVar 0) (mFrz (lList (mCons (mVar 2) (mNil)))) [some (.ref S.length), some (.lst (rs.map rowD)), some (.lst (l.map .int)), none, none] (S ++ [.ins 7 [(1, .lst ((fstI rs).map .int)), (2, .lst (((fstI rs).tail ++ [86400]).map .int)), (3, .lst ((sndI rs).map .int))]]) = .nx [some (.ref S.length), some (.lst (rs.map rowD)), some (.lst (l.map .int)), none, none] (S ++ [.ins 7 (bF ⟨rs, l⟩)]) :=
    fld_last (cl := [7]) (c := 7) (i := 4) (S := S) (x := .lst (l.map .int)) (fs := [(1, .lst ((fstI rs).map .int)), (2, .lst (((fstI rs).tail ++ [86400]).map .int)), (3, .lst ((sndI rs).map .int))]) (by rfl) (by rfl) (by rfl) (by simp)
  show runB 3 5 b_Bands_init _ _ = _
  rw [a_runB, if_pos (show [D.ref S.length, D.lst (rs.map rowD), ld].length = 3 from rfl)]
  show (match b_Bands_init [some (.ref S.length), some (.lst (rs.map rowD)), some ld, none, none] (S ++ [.ins 7 []]) with
    | .nx _ S' => Rs.ok D.non S'
    | .rt d S' => .ok d S'
    | .exc x _ S' => .exc x S'
    | _ => .bad) = _
  unfold b_Bands_init
  rw [a_sSeq, e1]
  dsimp only [RSt.seq]
  rw [a_sSeq, e4]
  dsimp only [RSt.seq]
  rw [a_sSeq, e5]
  dsimp only [RSt.seq]
  rw [a_sSeq, e6]
  dsimp only [RSt.seq]
  rw [a_sSeq, e7]
  dsimp only [RSt.seq]
  rw [e8]
theorem noRef_bD (b : Bd) : noRef (bD b) = true := by
  unfold bD noRef bF
  simp [noRefF, noRef, noRefs_ints]
theorem ev_mkBands {rs : List (Int × Int)} {l : List Int} {ld : D} {n : AM} {en : En} (S : Sto) (h : ROk rs) (hl : LOk l) (hd : (ld = .non ∧ l = []) ∨ ld = .lst (l.map .int)) (hn : n en S = .ok [.lst (rs.map rowD), ld] S) : mTrim (mFreeze (mMake 7 m_Bands_init [] n)) en S = .ok (bD ⟨rs, l⟩) S := by
  refine mk_frz (J := [.dead]) hn (ev_Bands_init S h hl hd) ?_ (noRef_bD _)
  unfold frz
  dsimp only
  rw [get_last]
  dsimp only
  rw [frzAll_id, set_last]
  · rfl
  · intro d hd
    simp only [bF, List.map_cons, List.map_nil, List.mem_cons, List.not_mem_nil, or_false] at hd
    rcases hd with rfl | rfl | rfl | rfl <;> rfl
/-! ### plans -/
def kvs (rs : List (Str × List Int)) : List (Key × D) := rs.map fun r => (Sum.inr r.1, D.lst (r.2.map D.int))
def wput (f : Str) (W : List (Key × D)) (k : Nat) : List (Key × D) := putD W (.inr (cutS f none (some (k : Int)))) (.bl true)
def wstep (W : List (Key × D)) (r : Str × List Int) : List (Key × D) := (List.range r.1.length).foldl (wput r.1) W
def ways (rs : List (Str × List Int)) : List (Key × D) := rs.foldl wstep []
theorem kvs_new {rs : List (Str × List Int)} {f : Str} (h : f ∉ rs.map (·.1)) : ∀ q ∈ kvs rs, q.1 ≠ Sum.inr f := fun q hq e => by
  obtain ⟨r, hr, rfl⟩ := List.mem_map.mp hq
  cases e
  exact h (List.mem_map.mpr ⟨r, hr, rfl⟩)
theorem wfold_len (f : Str) : ∀ (ks : List Nat) (W : List (Key × D)), (ks.foldl (wput f) W).length ≤ W.length + ks.length
  | [], W => by simp
  | k :: ks, W => by
    have h1 := wfold_len f ks (wput f W k)
    have h2 : (wput f W k).length ≤ W.length + 1 := putD_len
    rw [List.foldl_cons, List.length_cons]
    omega
theorem wfold_bl (f : Str) : ∀ (ks : List Nat) (W : List (Key × D)), (∀ q ∈ W, q.2 = .bl true) → ∀ q ∈ ks.foldl (wput f) W, q.2 = .bl true
  | [], W, h => h
  | k :: ks, W, h => wfold_bl f ks (wput f W k) (putD_all (P := fun d => d = .bl true) h rfl)
theorem ways_ok : ∀ (rs : List (Str × List Int)) (W : List (Key × D)), (∀ r ∈ rs, FOk r.1) → (∀ q ∈ W, q.2 = .bl true) → (rs.foldl wstep W).length ≤ W.length + 15 * rs.length ∧ ∀ q ∈ rs.foldl wstep W, q.2 = .bl true
  | [], W, _, h => ⟨by simp, h⟩
  | r :: rs, W, hf, h => by
    have h1 := wfold_len r.1 (List.range r.1.length) W
    have h2 := ways_ok rs (wstep W r) (fun q hq => hf q (List.mem_cons_of_mem _ hq)) (wfold_bl _ _ _ h)
    have h3 := (hf r List.mem_cons_self).2.1
    rw [List.length_range] at h1
    have h4 : (wstep W r).length ≤ W.length + r.1.length := h1
    exact ⟨by rw [List.foldl_cons, List.length_cons]; omega, h2.2⟩
/-- the plan as it is made -/
def planS (S : Sto) (K W : List (Key × D)) : Sto := S ++ [.ins 8 [(5, .ref (S.length + 1)), (6, .ref (S.length + 2))], .dct K, .dct W]
theorem planS0 (S : Sto) (K W : List (Key × D)) : (planS S K W)[S.length]? = some (.ins 8 [(5, .ref (S.length + 1)), (6, .ref (S.length + 2))]) := by simp [planS]
theorem planS1 (S : Sto) (K W : List (Key × D)) : (planS S K W)[S.length + 1]? = some (.dct K) := by simp [planS]
theorem planS2 (S : Sto) (K W : List (Key × D)) : (planS S K W)[S.length + 2]? = some (.dct W) := by simp [planS]
theorem planSet1 (S : Sto) (K W K' : List (Key × D)) : (planS S K W).set (S.length + 1) (.dct K') = planS S K' W := by simp [planS, List.set_append]
theorem planSet2 (S : Sto) (K W W' : List (Key × D)) : (planS S K W).set (S.length + 2) (.dct W') = planS S K W' := by simp [planS, List.set_append]
theorem plan_inner {f : Str} {S : Sto} {K W : List (Key × D)} {r v o4 : Option D} (hf : FOk f) (hz : W.length ≤ 4000) :
    ∃ o, sFor (iRange1 (mCons (mOpN oLen (mCons (mVar 2) (mNil))) (mNil))) (.nm 4) (sDput (mFld 6 (mVar 0)) (mSl (mVar 2) (mNoPart) (mPart (mVar 4))) (mC (.bl true))) [some (.ref S.length), r, some (.str f), v, o4] (planS S K W) = .nx [some (.ref S.length), r, some (.str f), v, o] (planS S K ((List.range f.length).foldl (wput f) W)) := by
  have lf : f.length ≤ 16777216 := by have := hf.2.1; omega
  obtain ⟨en2, S2, e, o, W2, rfl, rfl, hW, _⟩ := for_nx (body := sDput (mFld 6 (mVar 0)) (mSl (mVar 2) (mNoPart) (mPart (mVar 4))) (mC (.bl true))) (g := .nm 4) (mi := iRange1 (mCons (mOpN oLen (mCons (mVar 2) (mNil))) (mNil))) (en := [some (.ref S.length), r, some (.str f), v, o4]) (S := planS S K W) (List.range f.length) (fun (k : Nat) => D.int (k : Int))
    (fun ks en S' => ∃ o W2, en = [some (.ref S.length), r, some (.str f), v, o] ∧ S' = planS S K W2 ∧ ks.foldl (wput f) W2 = (List.range f.length).foldl (wput f) W ∧ W2.length + ks.length ≤ 4015)
    (iRange1_ok (j := (f.length : Int)) (by simp [a_runB, a_sSeq, a_sAsg, a_sRet, a_sRetN, a_sExp, a_sIf, a_sNil, a_sRaise, a_sFor, a_mBin, a_mUn, a_mVar, a_mC, opt, a_mNil, a_mCons, a_mOpN, asB, a_mTest, a_mAnd, a_mOr, a_mNot, a_mAndV, a_mOrV, a_mNotV, a_mIf, a_mChain, a_mTup, a_mFrz, a_mNew, a_lDis, a_mCall, a_mMeth, a_mIsi, a_mFld, tyD, isB, a_mPart, a_mNoPart, Rs.bind, Rs.then, RSt.seq, asgn, asSeq, asT, asL, asI, setAll, dAdd_int, dSub_int, dLt_int, dLe_int, dGt_int, dGe_int, dNeg_int, dEq_int, dNe_int, dEq_bl, dNe_bl, dIsN_non, dIsN_int, dIsN_str, dIsN_lst, dIsN_tup, sizeLine_v, oLen, lf]) (by omega)) rfl ⟨o4, W, rfl, rfl, rfl, by have := hf.2.1; simp; omega⟩ (fun _ _ _ _ => rfl) (fun k ks en S' h => by
      obtain ⟨o, W2, rfl, rfl, hW, hl⟩ := h
      refine ⟨_, rfl, _, _, dput_ok (i := S.length + 2) (kds := W2) (k := .str (cutS f none (some (k : Int)))) (kk := .inr (cutS f none (some (k : Int)))) rfl (fld_ref rfl (planS0 S K W2) rfl) ?_ (planS2 S K W2) rfl (by rw [sizeLine_v]; omega), some (.int (k : Int)), _, rfl, planSet2 _ _ _ _, hW, ?_⟩
      · simp [a_runB, a_sSeq, a_sAsg, a_sRet, a_sRetN, a_sExp, a_sIf, a_sNil, a_sRaise, a_sFor, a_mBin, a_mUn, a_mVar, a_mC, opt, a_mNil, a_mCons, a_mOpN, asB, a_mTest, a_mAnd, a_mOr, a_mNot, a_mAndV, a_mOrV, a_mNotV, a_mIf, a_mChain, a_mTup, a_mFrz, a_mNew, a_lDis, a_mCall, a_mMeth, a_mIsi, a_mFld, tyD, isB, a_mPart, a_mNoPart, Rs.bind, Rs.then, RSt.seq, asgn, asSeq, asT, asL, asI, setAll, dAdd_int, dSub_int, dLt_int, dLe_int, dGt_int, dGe_int, dNeg_int, dEq_int, dNe_int, dEq_bl, dNe_bl, dIsN_non, dIsN_int, dIsN_str, dIsN_lst, dIsN_tup, sizeLine_v, a_mSl, dSl, lf]
      · have : (putD W2 (Sum.inr (cutS f none (some (k : Int)))) (.bl true)).length ≤ W2.length + 1 := putD_len
        simp at hl
        omega)
  refine ⟨o, ?_⟩
  rw [e]
  have hW : W2 = _ := hW
  rw [hW]
theorem ev_Plan_init {rs : List (Str × List Int)} {rD : D} (S : Sto) (h : POk rs) (hl : rs.length ≤ 200) (hlen : ∀ S' : Sto, (∃ J, S' = S ++ J) → oLen [rD] S' = some (.int rs.length))
    (hseq : ∀ (S' : Sto) (o2 o3 o4 : Option D), (∃ J, S' = S ++ J) → ∃ chk, iSeq (mVar 1) [some (.ref S.length), some rD, o2, o3, o4] S' = .ok (rs.map pD, chk) S' ∧ ∀ S2 : Sto, (∃ J, S2 = S ++ J) → chk S2 = true) :
    m_Plan_init [.ref S.length, rD] (S ++ [.ins 8 []]) = .ok .non (planS S (kvs rs) (ways rs)) := by
  have e1 : sIf (mTest (mBin dGt (mOpN oLen (mCons (mVar 1) (mNil))) (mC (.int 200)))) (sRaise 2) (sNil) [some (.ref S.length), some rD, none, none, none] (S ++ [.ins 8 []]) = .nx [some (.ref S.length), some rD, none, none, none] (S ++ [.ins 8 []]) := by
    have l1 : ¬ (200 : Int) < (rs.length : Int) := by omega
    simp [a_runB, a_sSeq, a_sAsg, a_sRet, a_sRetN, a_sExp, a_sIf, a_sNil, a_sRaise, a_sFor, a_mBin, a_mUn, a_mVar, a_mC, opt, a_mNil, a_mCons, a_mOpN, asB, a_mTest, a_mAnd, a_mOr, a_mNot, a_mAndV, a_mOrV, a_mNotV, a_mIf, a_mChain, a_mTup, a_mFrz, a_mNew, a_lDis, a_mCall, a_mMeth, a_mIsi, a_mFld, tyD, isB, a_mPart, a_mNoPart, Rs.bind, Rs.then, RSt.seq, asgn, asSeq, asT, asL, asI, setAll, dAdd_int, dSub_int, dLt_int, dLe_int, dGt_int, dGe_int, dNeg_int, dEq_int, dNe_int, dEq_bl, dNe_bl, dIsN_non, dIsN_int, dIsN_str, dIsN_lst, dIsN_tup, sizeLine_v, hlen _ ⟨_, rfl⟩, l1]
  have e2 : sFldS [8] 5 (mVar 0) (mDct) [some (.ref S.length), some rD, none, none, none] (S ++ [.ins 8 []]) = .nx [some (.ref S.length), some rD, none, none, none] (S ++ [.ins 8 [(5, .ref (S.length + 1))], .dct []]) := by
    rw [a_sFldS, a_mDct]
    simp [Rs.then, a_mVar, putI, List.set_append]
  have e3 : sFldS [8] 6 (mVar 0) (mDct) [some (.ref S.length), some rD, none, none, none] (S ++ [.ins 8 [(5, .ref (S.length + 1))], .dct []]) = .nx [some (.ref S.length), some rD, none, none, none] (planS S [] []) := by
    rw [a_sFldS, a_mDct]
    simp [Rs.then, a_mVar, putI, List.set_append, planS]
  show runB 2 5 b_Plan_init _ _ = _
  rw [a_runB, if_pos (show [D.ref S.length, rD].length = 2 from rfl)]
  show (match b_Plan_init [some (.ref S.length), some rD, none, none, none] (S ++ [.ins 8 []]) with
    | .nx _ S' => Rs.ok D.non S'
    | .rt d S' => .ok d S'
    | .exc x _ S' => .exc x S'
    | _ => .bad) = _
  unfold b_Plan_init
  rw [a_sSeq, e1]
  dsimp only [RSt.seq]
  rw [a_sSeq, e2]
  dsimp only [RSt.seq]
  rw [a_sSeq, e3]
  dsimp only [RSt.seq]
  obtain ⟨chk, hi, hc⟩ := hseq (planS S [] []) none none none ⟨_, rfl⟩
  obtain ⟨en2, S2, e, o2, o3, o4, done, rfl, rfl, hd⟩ := for_nx (S1 := planS S [] []) (g := .tp [2, 3]) (en := [some (.ref S.length), some rD, none, none, none]) (body := (sSeq (sIf (mNot (mTest (mCall m_is_figures [] (mCons (mVar 2) (mNil))))) (sRaise 1) (sNil))
  (sSeq (sIf (mTest (mIn (fun b => b) (mVar 2) (mFld 5 (mVar 0)))) (sBad) (sNil))
  (sSeq (sDput (mFld 5 (mVar 0)) (mVar 2) (mVar 3))
  (sFor (iRange1 (mCons (mOpN oLen (mCons (mVar 2) (mNil))) (mNil))) (.nm 4) (sDput (mFld 6 (mVar 0)) (mSl (mVar 2) (mNoPart) (mPart (mVar 4))) (mC (.bl true)))))))) rs pD
    (fun rest en S' => ∃ o2 o3 o4 done, en = [some (.ref S.length), some rD, o2, o3, o4] ∧ S' = planS S (kvs done) (ways done) ∧ done ++ rest = rs) hi rfl ⟨none, none, none, [], rfl, rfl, rfl⟩ (fun xs en S' hI => by
      obtain ⟨_, _, _, done, _, rfl, _⟩ := hI
      exact hc _ ⟨_, rfl⟩) (fun r rest en S' hI => by
      obtain ⟨o2, o3, o4, done, rfl, rfl, hd⟩ := hI
      have hr : r ∈ rs := by rw [← hd]; simp
      have hdn : ∀ q ∈ done, q ∈ rs := fun q hq => by rw [← hd]; exact List.mem_append_left _ hq
      have hnew : r.1 ∉ done.map (·.1) := fun hm => by
        have nd := h.nd
        rw [← hd, List.map_append, List.map_cons, List.nodup_append] at nd
        exact nd.2.2 _ hm _ List.mem_cons_self rfl
      have hdl : done.length ≤ 200 := by
        have : (done ++ r :: rest).length = rs.length := by rw [hd]
        simp at this
        omega
      have wl : (ways done).length ≤ 4000 := by
        have := (ways_ok done [] (fun q hq => h.k q (hdn q hq)) (by simp)).1
        unfold ways
        simp at this
        omega
      have f1 := ev_is_figures (planS S (kvs done) (ways done)) (h.k r hr)
      have f2 : mIn (fun b => b) (mVar 2) (mFld 5 (mVar 0)) [some (.ref S.length), some rD, some (.str r.1), some (.lst (r.2.map .int)), o4] (planS S (kvs done) (ways done)) = .ok (.bl false) (planS S (kvs done) (ways done)) := by
        have := mIn_dct (f := fun b => b) (a := mVar 2) (b := mFld 5 (mVar 0)) (en := [some (.ref S.length), some rD, some (.str r.1), some (.lst (r.2.map .int)), o4]) (S := planS S (kvs done) (ways done)) (k := .str r.1) rfl (fld_ref rfl (planS0 S _ _) rfl) (dGet_ref (planS1 S _ _) rfl)
        rw [this, valD_none (kvs_new hnew)]
        rfl
      have f3 : sDput (mFld 5 (mVar 0)) (mVar 2) (mVar 3) [some (.ref S.length), some rD, some (.str r.1), some (.lst (r.2.map .int)), o4] (planS S (kvs done) (ways done)) = .nx [some (.ref S.length), some rD, some (.str r.1), some (.lst (r.2.map .int)), o4] (planS S (kvs (done ++ [r])) (ways done)) := by
        rw [dput_ok (i := S.length + 1) (kds := kvs done) (k := .str r.1) (kk := .inr r.1) (v := .lst (r.2.map .int)) rfl (fld_ref rfl (planS0 S _ _) rfl) rfl (planS1 S _ _) rfl (by rw [sizeLine_v]; simp [kvs]; omega), putD_new (kvs_new hnew), planSet1]
        simp [kvs]
      obtain ⟨o, f4⟩ := plan_inner (S := S) (K := kvs (done ++ [r])) (W := ways done) (r := some rD) (v := some (.lst (r.2.map .int))) (o4 := o4) (h.k r hr) wl
      refine ⟨[some (.ref S.length), some rD, some (.str r.1), some (.lst (r.2.map .int)), o4], rfl, [some (.ref S.length), some rD, some (.str r.1), some (.lst (r.2.map .int)), o], planS S (kvs (done ++ [r])) (ways (done ++ [r])), ?_, _, _, _, done ++ [r], rfl, rfl, by rw [← hd]; simp⟩
      have w2 : ways (done ++ [r]) = (List.range r.1.length).foldl (wput r.1) (ways done) := by unfold ways; rw [List.foldl_append]; rfl
      rw [w2, ← f4, a_sSeq]
      have g1 : sIf (mNot (mTest (mCall m_is_figures [] (mCons (mVar 2) (mNil))))) (sRaise 1) (sNil) [some (.ref S.length), some rD, some (.str r.1), some (.lst (r.2.map .int)), o4] (planS S (kvs done) (ways done)) = .nx [some (.ref S.length), some rD, some (.str r.1), some (.lst (r.2.map .int)), o4] (planS S (kvs done) (ways done)) := by
        simp [a_runB, a_sSeq, a_sAsg, a_sRet, a_sRetN, a_sExp, a_sIf, a_sNil, a_sRaise, a_sFor, a_mBin, a_mUn, a_mVar, a_mC, opt, a_mNil, a_mCons, a_mOpN, asB, a_mTest, a_mAnd, a_mOr, a_mNot, a_mAndV, a_mOrV, a_mNotV, a_mIf, a_mChain, a_mTup, a_mFrz, a_mNew, a_lDis, a_mCall, a_mMeth, a_mIsi, a_mFld, tyD, isB, a_mPart, a_mNoPart, Rs.bind, Rs.then, RSt.seq, asgn, asSeq, asT, asL, asI, setAll, dAdd_int, dSub_int, dLt_int, dLe_int, dGt_int, dGe_int, dNeg_int, dEq_int, dNe_int, dEq_bl, dNe_bl, dIsN_non, dIsN_int, dIsN_str, dIsN_lst, dIsN_tup, sizeLine_v, f1]
      rw [g1]
      dsimp only [RSt.seq]
      rw [a_sSeq, a_sIf, a_mTest, f2]
      simp only [Rs.bind, asB, Rs.then, a_sNil, RSt.seq, Bool.false_eq_true, if_false]
      rw [a_sSeq, f3]
      rfl)
  have hd : done = rs := by simpa using hd
  subst hd
  rw [e]
def planD (rs : List (Str × List Int)) : D := .obj 8 [(5, .dct (kvs rs)), (6, .dct (ways rs))]
theorem noRefK_of {l : List (Key × D)} (h : ∀ q ∈ l, noRef q.2 = true) : noRefK l = true := by
  induction l with
  | nil => rfl
  | cons q l ih =>
    unfold noRefK
    rw [h q List.mem_cons_self, ih fun x hx => h x (List.mem_cons_of_mem _ hx)]
    rfl
theorem noRef_planD {rs : List (Str × List Int)} (h : POk rs) : noRef (planD rs) = true := by
  have h1 : noRefK (kvs rs) = true := noRefK_of fun q hq => by
    obtain ⟨r, hr, rfl⟩ := List.mem_map.mp hq
    exact noRefs_ints _
  have h2 : noRefK (ways rs) = true := noRefK_of fun q hq => by
    rw [(ways_ok rs [] h.k (by simp)).2 q hq]
    rfl
  unfold planD noRef
  simp [noRefF, noRef, h1, h2]
theorem frz_dct {n i : Nat} {S : Sto} {kds : List (Key × D)} (hi : S[i]? = some (.dct kds)) (h : ∀ d ∈ kds.map (·.2), frz n d (S.set i .dead) = some (d, S.set i .dead)) : frz (n + 1) (.ref i) S = some (.dct kds, S.set i .dead) := by
  unfold frz
  dsimp only
  rw [hi]
  dsimp only
  rw [frzAll_id h]
  dsimp only
  have : ∀ l : List (Key × D), (l.map (·.1)).zip (l.map (·.2)) = l := fun l => by
    induction l with
    | nil => rfl
    | cons x l ih => rw [List.map_cons, List.map_cons, List.zip_cons_cons, ih]
  rw [this]
theorem frz_plan {rs : List (Str × List Int)} (S : Sto) (h : POk rs) : frz 8 (.ref S.length) (planS S (kvs rs) (ways rs)) = some (planD rs, S ++ [.dead, .dead, .dead]) := by
  unfold frz
  dsimp only
  rw [planS0]
  dsimp only
  have s0 : (planS S (kvs rs) (ways rs)).set S.length .dead = S ++ [.dead, .dct (kvs rs), .dct (ways rs)] := by simp [planS, List.set_append]
  have s1 : (S ++ [SO.dead, .dct (kvs rs), .dct (ways rs)]).set (S.length + 1) .dead = S ++ [.dead, .dead, .dct (ways rs)] := by simp [List.set_append]
  have s2 : (S ++ [SO.dead, .dead, .dct (ways rs)]).set (S.length + 2) .dead = S ++ [.dead, .dead, .dead] := by simp [List.set_append]
  have f1 : frz 7 (.ref (S.length + 1)) (S ++ [SO.dead, .dct (kvs rs), .dct (ways rs)]) = some (.dct (kvs rs), S ++ [.dead, .dead, .dct (ways rs)]) := by
    rw [frz_dct (n := 6) (kds := kvs rs) (by simp), s1]
    intro d hd
    obtain ⟨q, hq, rfl⟩ := List.mem_map.mp hd
    obtain ⟨r, hr, rfl⟩ := List.mem_map.mp hq
    rfl
  have f2 : frz 7 (.ref (S.length + 2)) (S ++ [SO.dead, .dead, .dct (ways rs)]) = some (.dct (ways rs), S ++ [.dead, .dead, .dead]) := by
    rw [frz_dct (n := 6) (kds := ways rs) (by simp), s2]
    intro d hd
    obtain ⟨q, hq, rfl⟩ := List.mem_map.mp hd
    rw [(ways_ok rs [] h.k (by simp)).2 q hq]
    rfl
  rw [s0]
  simp only [List.map_cons, List.map_nil, frzAll, f1, f2]
  rfl
theorem ev_mkPlan {rs : List (Str × List Int)} {rD : D} {n : AM} {en : En} (S : Sto) (h : POk rs) (hl : rs.length ≤ 200) (hr : rD = .lst (rs.map pD) ∨ ∃ j, rD = .ref j ∧ S[j]? = some (.lst (rs.map pD))) (hn : n en S = .ok [rD] S) : mTrim (mFreeze (mMake 8 m_Plan_init [] n)) en S = .ok (planD rs) S := by
  have up : ∀ {j : Nat} {S' : Sto}, S[j]? = some (.lst (rs.map pD)) → (∃ J, S' = S ++ J) → S'[j]? = some (.lst (rs.map pD)) := fun {j S'} hj ⟨J, e⟩ => by
    rw [e, List.getElem?_append_left (List.getElem?_eq_some_iff.mp hj).1, hj]
  refine mk_frz (S1 := planS S (kvs rs) (ways rs)) hn (ev_Plan_init S h hl (fun S' hS => ?_) fun S' o2 o3 o4 hS => ?_) (frz_plan S h) (noRef_planD h)
  · rcases hr with rfl | ⟨j, rfl, hj⟩
    · simp [oLen, asSeq, asT, asL]
    · simp [oLen, asSeq, asT, asL_ref (up hj hS)]
  · rcases hr with rfl | ⟨j, rfl, hj⟩
    · exact ⟨_, iSeq_lst rfl, fun _ _ => rfl⟩
    · exact ⟨_, iSeq_ref rfl (up hj hS), fun S2 h2 => stays_ref (up hj h2)⟩
end Gk84
namespace Gk84
open PySem L2 Mi
/-! ### tariffs -/
def tarD (b : Bd) (rs : List (Str × List Int)) : D := .obj 9 [(7, bD b), (8, planD rs)]
theorem ev_plan_rows {rs : List (Str × List Int)} (S : Sto) : m_Plan_rows [planD rs] S = .ok (.lst (rs.map pD)) S := by
  refine gv_trim rfl ?_ (noRefs_map pD noRef_pD _)
  refine gv_ret (J := []) ?_
  have e1 : mFld 5 (mVar 0) [some (planD rs)] S = .ok (.dct (kvs rs)) S := fld_obj rfl rfl
  have e2 : lItems (mFld 5 (mVar 0)) [some (planD rs)] S = .ok ((kvs rs).map fun p => .tup [kD p.1, p.2]) S := by
    unfold lItems
    rw [e1]
    rfl
  show mFrz _ [some (planD rs)] S = _
  rw [a_mFrz, e2]
  have : ((kvs rs).map fun p => D.tup [kD p.1, p.2]) = rs.map pD := by
    unfold kvs
    rw [List.map_map]
    rfl
  rw [this]
  simp [Rs.bind]
theorem ev_Tariff_init {b : Bd} {rs : List (Str × List Int)} (S : Sto) (h : POk rs) (hl : rs.length ≤ 200) : ∃ J, m_Tariff_init [.ref S.length, bD b, planD rs] (S ++ [.ins 9 []]) = .ok .non (S ++ .ins 9 [(7, bD b), (8, planD rs)] :: J) := by
  have e1 : sAsg (.nm 3) (mNew (lDis (mNil))) [some (.ref S.length), some (bD b), some (planD rs), none, none, none] (S ++ [.ins 9 []]) = .nx [some (.ref S.length), some (bD b), some (planD rs), some (.ref (S.length + 1)), none, none] (S ++ [.ins 9 [], .lst []]) := by
    simp [a_runB, a_sSeq, a_sAsg, a_sRet, a_sRetN, a_sExp, a_sIf, a_sNil, a_sRaise, a_sFor, a_mBin, a_mUn, a_mVar, a_mC, opt, a_mNil, a_mCons, a_mOpN, asB, a_mTest, a_mAnd, a_mOr, a_mNot, a_mAndV, a_mOrV, a_mNotV, a_mIf, a_mChain, a_mTup, a_mFrz, a_mNew, a_lDis, a_mCall, a_mMeth, a_mIsi, a_mFld, tyD, isB, a_mPart, a_mNoPart, Rs.bind, Rs.then, RSt.seq, asgn, asSeq, asT, asL, asI, setAll, dAdd_int, dSub_int, dLt_int, dLe_int, dGt_int, dGe_int, dNeg_int, dEq_int, dNe_int, dEq_bl, dNe_bl, dIsN_non, dIsN_int, dIsN_str, dIsN_lst, dIsN_tup, sizeLine_v]
  have e0 : ∀ S' : Sto, mMeth [(8, m_Plan_rows)] [] (mVar 2) mNil [some (.ref S.length), some (bD b), some (planD rs), some (.ref (S.length + 1)), none, none] S' = .ok (.lst (rs.map pD)) S' := fun S' => meth_obj rfl rfl rfl (ev_plan_rows S')
  obtain ⟨en2, S2, e2, o4, o5, done, rfl, rfl, hd⟩ := for_nx (mi := iSeq (mMeth [(8, m_Plan_rows)] [] (mVar 2) mNil)) (g := .tp [4, 5]) (en := [some (.ref S.length), some (bD b), some (planD rs), some (.ref (S.length + 1)), none, none]) (S := S ++ [.ins 9 [], .lst []]) (body := (sSeq (sExp (mCall m_need_prices [] (mCons (mVar 5) (mNil))))
  (sExp (mAppend (mVar 3) (mCons (mTup (mCons (mVar 4) (mCons (mFrz (lList (mCons (mVar 5) (mNil)))) (mNil)))) (mNil)))))) rs pD
    (fun rest en S' => ∃ o4 o5 done, en = [some (.ref S.length), some (bD b), some (planD rs), some (.ref (S.length + 1)), o4, o5] ∧ S' = S ++ [.ins 9 [], .lst (done.map pD)] ∧ done ++ rest = rs)
    (iSeq_lst (e0 _)) rfl ⟨none, none, [], rfl, rfl, rfl⟩ (fun _ _ _ _ => rfl) (fun r rest en S' hI => by
      obtain ⟨o4, o5, done, rfl, rfl, hd⟩ := hI
      have hr : r ∈ rs := by rw [← hd]; simp
      have hz : done.length ≤ 200 := by
        have : (done ++ r :: rest).length = rs.length := by rw [hd]
        simp at this
        omega
      have f1 := ev_need_prices (l := r.2) (S ++ [.ins 9 [], .lst (done.map pD)]) ⟨(h.p r hr).1, (h.p r hr).2⟩
      have f2 : mAppend (mVar 3) (mCons (mTup (mCons (mVar 4) (mCons (mFrz (lList (mCons (mVar 5) (mNil)))) (mNil)))) (mNil)) [some (.ref S.length), some (bD b), some (planD rs), some (.ref (S.length + 1)), some (.str r.1), some (.lst (r.2.map .int))] (S ++ [.ins 9 [], .lst (done.map pD)]) = .ok .non ((S ++ [SO.ins 9 [], SO.lst (done.map pD)]).set (S.length + 1) (SO.lst (done.map pD ++ [pD r]))) :=
        append_ok rfl (by simp) (by rfl) (by rw [sizeLine_v]; simp; omega)
      refine ⟨[some (.ref S.length), some (bD b), some (planD rs), some (.ref (S.length + 1)), some (.str r.1), some (.lst (r.2.map .int))], rfl, _, S ++ [.ins 9 [], .lst ((done ++ [r]).map pD)], ?_, some (.str r.1), some (.lst (r.2.map .int)), done ++ [r], rfl, rfl, by rw [← hd]; simp⟩
      simp [a_runB, a_sSeq, a_sAsg, a_sRet, a_sRetN, a_sExp, a_sIf, a_sNil, a_sRaise, a_sFor, a_mBin, a_mUn, a_mVar, a_mC, opt, a_mNil, a_mCons, a_mOpN, asB, a_mTest, a_mAnd, a_mOr, a_mNot, a_mAndV, a_mOrV, a_mNotV, a_mIf, a_mChain, a_mTup, a_mFrz, a_mNew, a_lDis, a_mCall, a_mMeth, a_mIsi, a_mFld, tyD, isB, a_mPart, a_mNoPart, Rs.bind, Rs.then, RSt.seq, asgn, asSeq, asT, asL, asI, setAll, dAdd_int, dSub_int, dLt_int, dLe_int, dGt_int, dGe_int, dNeg_int, dEq_int, dNe_int, dEq_bl, dNe_bl, dIsN_non, dIsN_int, dIsN_str, dIsN_lst, dIsN_tup, sizeLine_v, f1, f2, List.set_append])
  have hd : done = rs := by simpa using hd
  subst hd
  have e3 : sFldS [9] 7 (mVar 0) (mVar 1) [some (.ref S.length), some (bD b), some (planD done), some (.ref (S.length + 1)), o4, o5] (S ++ [.ins 9 [], .lst (done.map pD)]) = .nx [some (.ref S.length), some (bD b), some (planD done), some (.ref (S.length + 1)), o4, o5] (S ++ [.ins 9 [(7, bD b)], .lst (done.map pD)]) := by
    rw [a_sFldS]
    simp [Rs.then, a_mVar, putI, List.set_append]
  have e4 : mTrim (mFreeze (mMake 8 m_Plan_init [] (mCons (mVar 3) (mNil)))) [some (.ref S.length), some (bD b), some (planD done), some (.ref (S.length + 1)), o4, o5] (S ++ [.ins 9 [(7, bD b)], .lst (done.map pD)]) = .ok (planD done) (S ++ [.ins 9 [(7, bD b)], .lst (done.map pD)]) := ev_mkPlan _ h hl (.inr ⟨S.length + 1, rfl, by simp⟩) rfl
  have e5 : sFldS [9] 8 (mVar 0) (mTrim (mFreeze (mMake 8 m_Plan_init [] (mCons (mVar 3) (mNil))))) [some (.ref S.length), some (bD b), some (planD done), some (.ref (S.length + 1)), o4, o5] (S ++ [.ins 9 [(7, bD b)], .lst (done.map pD)]) = .nx [some (.ref S.length), some (bD b), some (planD done), some (.ref (S.length + 1)), o4, o5] (S ++ [.ins 9 [(7, bD b), (8, planD done)], .lst (done.map pD)]) := by
    rw [a_sFldS, e4]
    simp [Rs.then, a_mVar, putI, List.set_append]
  refine ⟨[.lst (done.map pD)], ?_⟩
  show runB 3 6 b_Tariff_init _ _ = _
  rw [a_runB, if_pos (show [D.ref S.length, bD b, planD done].length = 3 from rfl)]
  show (match b_Tariff_init [some (.ref S.length), some (bD b), some (planD done), none, none, none] (S ++ [.ins 9 []]) with
    | .nx _ S' => Rs.ok D.non S'
    | .rt d S' => .ok d S'
    | .exc x _ S' => .exc x S'
    | _ => .bad) = _
  unfold b_Tariff_init
  rw [a_sSeq, e1]
  dsimp only [RSt.seq]
  rw [a_sSeq, e2]
  dsimp only [RSt.seq]
  rw [a_sSeq, e3]
  dsimp only [RSt.seq]
  rw [e5]
theorem noRef_tarD {b : Bd} {rs : List (Str × List Int)} (h : POk rs) : noRef (tarD b rs) = true := by
  unfold tarD noRef
  simp [noRefF, noRef_bD, noRef_planD h]
theorem ev_mkTariff {b : Bd} {rs : List (Str × List Int)} {n : AM} {en : En} (S : Sto) (h : POk rs) (hl : rs.length ≤ 200) (hn : n en S = .ok [bD b, planD rs] S) : mTrim (mFreeze (mMake 9 m_Tariff_init [] n)) en S = .ok (tarD b rs) S := by
  obtain ⟨J, e⟩ := ev_Tariff_init (b := b) S h hl
  refine mk_frz (J := .dead :: J) hn e ?_ (noRef_tarD h)
  have g : (S ++ SO.ins 9 [(7, bD b), (8, planD rs)] :: J)[S.length]? = some (.ins 9 [(7, bD b), (8, planD rs)]) := by simp
  have s : (S ++ SO.ins 9 [(7, bD b), (8, planD rs)] :: J).set S.length .dead = S ++ .dead :: J := by simp [List.set_append]
  unfold frz
  dsimp only
  rw [g]
  dsimp only
  rw [s, frzAll_id]
  · rfl
  · intro d hd
    simp only [List.map_cons, List.map_nil, List.mem_cons, List.not_mem_nil, or_false] at hd
    rcases hd with rfl | rfl <;> rfl
/-! ### what is found -/
def lg (rs : List (Str × List Int)) (n : Str) : Nat → Option Str
  | 0 => none
  | s + 1 => if cutS n none (some ((s + 1 : Nat) : Int)) ∈ rs.map (·.1) then some (cutS n none (some ((s + 1 : Nat) : Int))) else lg rs n s
def strD : Option Str → D
  | none => .non
  | some x => .str x
theorem valD_kvs {rs : List (Str × List Int)} (f : Str) : (valD (kvs rs) (Sum.inr f)).isSome = decide (f ∈ rs.map (·.1)) := by
  by_cases h : f ∈ rs.map (·.1)
  · rw [decide_eq_true h]
    unfold valD
    rw [Option.isSome_map, List.find?_isSome]
    obtain ⟨r, hr, rfl⟩ := List.mem_map.mp h
    exact ⟨(Sum.inr r.1, .lst (r.2.map .int)), List.mem_map.mpr ⟨r, hr, rfl⟩, by simp⟩
  · rw [decide_eq_false h, valD_none (kvs_new h)]
    rfl
theorem ev_longest {rs : List (Str × List Int)} {n : Str} (S : Sto) (hn : n.length ≤ 1000) : m_Plan_longest [planD rs, .str n] S = .ok (strD (lg rs n n.length)) S := by
  refine gv_trim rfl ?_ (by cases lg rs n n.length <;> rfl)
  have ln : n.length ≤ 16777216 := by omega
  refine gv_for (List.range n.length) (fun (k : Nat) => D.int ((n.length : Int) - (k : Int))) (fun ks en S' => ∃ o j, en = [some (planD rs), some (.str n), o] ∧ S' = S ∧ ks = (List.range' j (n.length - j)) ∧ j ≤ n.length ∧ lg rs n (n.length - j) = lg rs n n.length)
    (iRangeD_ok (j := (n.length : Int)) (by simp [a_runB, a_sSeq, a_sAsg, a_sRet, a_sRetN, a_sExp, a_sIf, a_sNil, a_sRaise, a_sFor, a_mBin, a_mUn, a_mVar, a_mC, opt, a_mNil, a_mCons, a_mOpN, asB, a_mTest, a_mAnd, a_mOr, a_mNot, a_mAndV, a_mOrV, a_mNotV, a_mIf, a_mChain, a_mTup, a_mFrz, a_mNew, a_lDis, a_mCall, a_mMeth, a_mIsi, a_mFld, tyD, isB, a_mPart, a_mNoPart, Rs.bind, Rs.then, RSt.seq, asgn, asSeq, asT, asL, asI, setAll, dAdd_int, dSub_int, dLt_int, dLe_int, dGt_int, dGe_int, dNeg_int, dEq_int, dNe_int, dEq_bl, dNe_bl, dIsN_non, dIsN_int, dIsN_str, dIsN_lst, dIsN_tup, sizeLine_v, oLen, ln]) (by omega)) rfl ⟨none, 0, rfl, rfl, by rw [List.range_eq_range']; simp, by omega, by simp⟩ (fun _ _ _ _ => rfl) ?_ ?_
  · rintro k ks en S' ⟨o, j, rfl, rfl, hks, hj, hlg⟩
    have hj2 : j < n.length := by
      by_cases h : j < n.length
      · exact h
      · have : n.length - j = 0 := by omega
        rw [this] at hks
        cases hks
    obtain ⟨q, hq⟩ : ∃ q, n.length - j = q + 1 := ⟨n.length - j - 1, by omega⟩
    rw [hq, List.range'_succ] at hks
    simp only [List.cons.injEq] at hks
    obtain ⟨rfl, rfl⟩ := hks
    have ek : (n.length : Int) - (k : Int) = ((q + 1 : Nat) : Int) := by omega
    refine ⟨[some (planD rs), some (.str n), some (.int ((n.length : Int) - (k : Int)))], rfl, ?_⟩
    have f0 : mSl (mVar 1) (mNoPart) (mPart (mVar 2)) [some (planD rs), some (.str n), some (.int ((n.length : Int) - (k : Int)))] S' = .ok (.str (cutS n none (some ((n.length : Int) - (k : Int))))) S' := by
      simp [a_runB, a_sSeq, a_sAsg, a_sRet, a_sRetN, a_sExp, a_sIf, a_sNil, a_sRaise, a_sFor, a_mBin, a_mUn, a_mVar, a_mC, opt, a_mNil, a_mCons, a_mOpN, asB, a_mTest, a_mAnd, a_mOr, a_mNot, a_mAndV, a_mOrV, a_mNotV, a_mIf, a_mChain, a_mTup, a_mFrz, a_mNew, a_lDis, a_mCall, a_mMeth, a_mIsi, a_mFld, tyD, isB, a_mPart, a_mNoPart, Rs.bind, Rs.then, RSt.seq, asgn, asSeq, asT, asL, asI, setAll, dAdd_int, dSub_int, dLt_int, dLe_int, dGt_int, dGe_int, dNeg_int, dEq_int, dNe_int, dEq_bl, dNe_bl, dIsN_non, dIsN_int, dIsN_str, dIsN_lst, dIsN_tup, sizeLine_v, a_mSl, dSl, ln]
    have f1 : mIn (fun b => b) (mSl (mVar 1) (mNoPart) (mPart (mVar 2))) (mFld 5 (mVar 0)) [some (planD rs), some (.str n), some (.int ((n.length : Int) - (k : Int)))] S' = .ok (.bl (decide (cutS n none (some ((n.length : Int) - (k : Int))) ∈ rs.map (·.1)))) S' := by
      rw [mIn_dct (f := fun b => b) f0 (fld_obj rfl rfl) (dGet_dct (kds := kvs rs) rfl), valD_kvs]
    rw [hq] at hlg
    have lgs : lg rs n (q + 1) = if cutS n none (some ((q + 1 : Nat) : Int)) ∈ rs.map (·.1) then some (cutS n none (some ((q + 1 : Nat) : Int))) else lg rs n q := rfl
    rw [lgs, ← ek] at hlg
    by_cases hm : cutS n none (some ((n.length : Int) - (k : Int))) ∈ rs.map (·.1)
    · rw [if_pos hm] at hlg
      rw [decide_eq_true hm] at f1
      refine .inr ⟨[], ?_⟩
      rw [a_sIf, a_mTest, f1, ← hlg]
      simp [Rs.bind, Rs.then, asB, a_sRet, f0, strD]
    · rw [if_neg hm] at hlg
      rw [decide_eq_false hm] at f1
      refine .inl ⟨_, S', ?_, some (.int ((n.length : Int) - (k : Int))), k + 1, rfl, rfl, ?_, by omega, ?_⟩
      · rw [a_sIf, a_mTest, f1]
        simp [Rs.bind, Rs.then, asB, a_sNil]
      · rw [show n.length - (k + 1) = q by omega]
      · rw [show n.length - (k + 1) = q by omega]
        exact hlg
  · rintro en S' ⟨o, j, rfl, rfl, hks, hj, hlg⟩
    have : n.length - j = 0 := by
      cases h : n.length - j with
      | zero => rfl
      | succ q => rw [h, List.range'_succ] at hks; cases hks
    rw [this] at hlg
    refine gv_ret (J := []) ?_
    rw [← hlg]
    simp [a_mC, lg, strD]
def look (rs : List (Str × List Int)) (x : Str) : Option (List Int) := (rs.find? fun r => decide (r.1 = x)).map (·.2)
def pf (rs : List (Str × List Int)) (n : Str) : Option (List Int) := (lg rs n n.length).bind (look rs)
def listD : Option (List Int) → D
  | none => .non
  | some l => .lst (l.map .int)
theorem lg_mem {rs : List (Str × List Int)} {n x : Str} : ∀ {k : Nat}, lg rs n k = some x → x ∈ rs.map (·.1)
  | 0, h => by cases h
  | k + 1, h => by
    have lgs : lg rs n (k + 1) = if cutS n none (some ((k + 1 : Nat) : Int)) ∈ rs.map (·.1) then some (cutS n none (some ((k + 1 : Nat) : Int))) else lg rs n k := rfl
    rw [lgs] at h
    split at h
    · rename_i hm
      cases h
      exact hm
    · exact lg_mem h
theorem lg_len {rs : List (Str × List Int)} {n x : Str} : ∀ {k : Nat}, lg rs n k = some x → x.length ≤ n.length
  | 0, h => by cases h
  | k + 1, h => by
    have lgs : lg rs n (k + 1) = if cutS n none (some ((k + 1 : Nat) : Int)) ∈ rs.map (·.1) then some (cutS n none (some ((k + 1 : Nat) : Int))) else lg rs n k := rfl
    rw [lgs] at h
    split at h
    · cases h
      unfold cutS
      simp [Str.length, HT.sIx]
      omega
    · exact lg_len h
theorem look_some {rs : List (Str × List Int)} {x : Str} (h : x ∈ rs.map (·.1)) : ∃ l, look rs x = some l ∧ (x, l) ∈ rs := by
  obtain ⟨r, hr, rfl⟩ := List.mem_map.mp h
  cases e : rs.find? fun q => decide (q.1 = r.1) with
  | none =>
    have := List.find?_eq_none.mp e r hr
    simp at this
  | some q =>
    have h1 := List.find?_some e
    have h2 := List.mem_of_find?_eq_some e
    have h1 : q.1 = r.1 := by simpa using h1
    exact ⟨q.2, by unfold look; rw [e]; rfl, by rw [← h1]; exact h2⟩
theorem valD_look (rs : List (Str × List Int)) (x : Str) : valD (kvs rs) (Sum.inr x) = (look rs x).map fun l => D.lst (l.map .int) := by
  induction rs with
  | nil => rfl
  | cons r rs ih =>
    unfold valD look kvs at *
    rw [List.map_cons, List.find?_cons, List.find?_cons]
    by_cases h : r.1 = x
    · simp [h]
    · have h2 : ¬ (Sum.inr r.1 : Key) = Sum.inr x := fun e => h (by cases e; rfl)
      simp only [h, h2, decide_false]
      exact ih
theorem ev_prices_of {b : Bd} {rs : List (Str × List Int)} {n : Str} (S : Sto) (hn : n.length ≤ 1000) : m_Tariff_prices_of [tarD b rs, .str n] S = .ok (listD (pf rs n)) S := by
  refine gv_trim rfl ?_ (by cases pf rs n with | none => rfl | some l => exact noRefs_ints l)
  have ln : n.length ≤ 16777216 := by omega
  have e1 : ∀ o, mFld 8 (mVar 0) [some (tarD b rs), some (.str n), o] S = .ok (planD rs) S := fun o => fld_obj rfl rfl
  have el := ev_longest (rs := rs) S hn
  have f1 : ∀ o, mMeth [(8, m_Plan_longest)] [] (mVar 0) (mCons (mVar 1) (mNil)) [some (planD rs), some (.str n), o] S = .ok (strD (lg rs n n.length)) S := fun o => meth_obj rfl rfl rfl el
  cases hl : lg rs n n.length with
  | none =>
    have hp : pf rs n = none := by unfold pf; rw [hl]; rfl
    rw [hl] at f1
    have ef : m_Plan_found [planD rs, .str n] S = .ok .non S := by
      refine gv_trim rfl ?_ rfl
      refine gv_nx (en1 := [some (planD rs), some (.str n), some .non]) (S1 := S) ?_ ?_
      · show sAsg _ _ [some (planD rs), some (.str n), none] S = _
        rw [a_sAsg, f1]
        rfl
      · refine ⟨[], ?_⟩
        simp [a_runB, a_sSeq, a_sAsg, a_sRet, a_sRetN, a_sExp, a_sIf, a_sNil, a_sRaise, a_sFor, a_mBin, a_mUn, a_mVar, a_mC, opt, a_mNil, a_mCons, a_mOpN, asB, a_mTest, a_mAnd, a_mOr, a_mNot, a_mAndV, a_mOrV, a_mNotV, a_mIf, a_mChain, a_mTup, a_mFrz, a_mNew, a_lDis, a_mCall, a_mMeth, a_mIsi, a_mFld, tyD, isB, a_mPart, a_mNoPart, Rs.bind, Rs.then, RSt.seq, asgn, asSeq, asT, asL, asI, setAll, dAdd_int, dSub_int, dLt_int, dLe_int, dGt_int, dGe_int, dNeg_int, dEq_int, dNe_int, dEq_bl, dNe_bl, dIsN_non, dIsN_int, dIsN_str, dIsN_lst, dIsN_tup, sizeLine_v]
    have g1 : mMeth [(8, m_Plan_found)] [] (mFld 8 (mVar 0)) (mCons (mVar 1) (mNil)) [some (tarD b rs), some (.str n), none] S = .ok .non S := meth_obj (e1 none) rfl rfl ef
    rw [hp]
    refine gv_nx (en1 := [some (tarD b rs), some (.str n), some .non]) (S1 := S) ?_ ⟨[], ?_⟩
    · show sAsg _ _ [some (tarD b rs), some (.str n), none] S = _
      rw [a_sAsg, g1]
      rfl
    · simp [a_runB, a_sSeq, a_sAsg, a_sRet, a_sRetN, a_sExp, a_sIf, a_sNil, a_sRaise, a_sFor, a_mBin, a_mUn, a_mVar, a_mC, opt, a_mNil, a_mCons, a_mOpN, asB, a_mTest, a_mAnd, a_mOr, a_mNot, a_mAndV, a_mOrV, a_mNotV, a_mIf, a_mChain, a_mTup, a_mFrz, a_mNew, a_lDis, a_mCall, a_mMeth, a_mIsi, a_mFld, tyD, isB, a_mPart, a_mNoPart, Rs.bind, Rs.then, RSt.seq, asgn, asSeq, asT, asL, asI, setAll, dAdd_int, dSub_int, dLt_int, dLe_int, dGt_int, dGe_int, dNeg_int, dEq_int, dNe_int, dEq_bl, dNe_bl, dIsN_non, dIsN_int, dIsN_str, dIsN_lst, dIsN_tup, sizeLine_v, listD]
  | some x =>
    obtain ⟨l, h1, h2⟩ := look_some (lg_mem hl)
    have hx := lg_len hl
    have hp : pf rs n = some l := by unfold pf; rw [hl]; exact h1
    rw [hl] at f1
    have d1 : dIx (.dct (kvs rs)) (.str x) S = some (.lst (l.map .int)) := by
      unfold dIx
      rw [dGet_dct (kk := Sum.inr x) rfl, valD_look, h1]
      rfl
    have ef : m_Plan_found [planD rs, .str n] S = .ok (.tup [.str x, .lst (l.map .int), .str (cutS n (some (x.length : Int)) none)]) S := by
      refine gv_trim rfl ?_ (by unfold noRef noRefs noRefs noRefs noRefs noRef; rw [noRefs_ints]; rfl)
      refine gv_nx (en1 := [some (planD rs), some (.str n), some (.str x)]) (S1 := S) ?_ ?_
      · show sAsg _ _ [some (planD rs), some (.str n), none] S = _
        rw [a_sAsg, f1]
        rfl
      · refine ⟨[], ?_⟩
        have e2 : mFld 5 (mVar 0) [some (planD rs), some (.str n), some (.str x)] S = .ok (.dct (kvs rs)) S := fld_obj rfl rfl
        have lx : x.length ≤ 16777216 := by omega
        simp [↓e2, a_runB, a_sSeq, a_sAsg, a_sRet, a_sRetN, a_sExp, a_sIf, a_sNil, a_sRaise, a_sFor, a_mBin, a_mUn, a_mVar, a_mC, opt, a_mNil, a_mCons, a_mOpN, asB, a_mTest, a_mAnd, a_mOr, a_mNot, a_mAndV, a_mOrV, a_mNotV, a_mIf, a_mChain, a_mTup, a_mFrz, a_mNew, a_lDis, a_mCall, a_mMeth, a_mIsi, a_mFld, tyD, isB, a_mPart, a_mNoPart, Rs.bind, Rs.then, RSt.seq, asgn, asSeq, asT, asL, asI, setAll, dAdd_int, dSub_int, dLt_int, dLe_int, dGt_int, dGe_int, dNeg_int, dEq_int, dNe_int, dEq_bl, dNe_bl, dIsN_non, dIsN_int, dIsN_str, dIsN_lst, dIsN_tup, sizeLine_v, d1, a_mSl, dSl, ln, oLen, lx]
    have g1 : mMeth [(8, m_Plan_found)] [] (mFld 8 (mVar 0)) (mCons (mVar 1) (mNil)) [some (tarD b rs), some (.str n), none] S = .ok (.tup [.str x, .lst (l.map .int), .str (cutS n (some (x.length : Int)) none)]) S := meth_obj (e1 none) rfl rfl ef
    rw [hp]
    refine gv_nx (en1 := [some (tarD b rs), some (.str n), some (.tup [.str x, .lst (l.map .int), .str (cutS n (some (x.length : Int)) none)])]) (S1 := S) ?_ ⟨[], ?_⟩
    · show sAsg _ _ [some (tarD b rs), some (.str n), none] S = _
      rw [a_sAsg, g1]
      rfl
    · have d2 : dIx (.tup [.str x, .lst (l.map .int), .str (cutS n (some (x.length : Int)) none)]) (.int 1) S = some (.lst (l.map .int)) := rfl
      simp [a_runB, a_sSeq, a_sAsg, a_sRet, a_sRetN, a_sExp, a_sIf, a_sNil, a_sRaise, a_sFor, a_mBin, a_mUn, a_mVar, a_mC, opt, a_mNil, a_mCons, a_mOpN, asB, a_mTest, a_mAnd, a_mOr, a_mNot, a_mAndV, a_mOrV, a_mNotV, a_mIf, a_mChain, a_mTup, a_mFrz, a_mNew, a_lDis, a_mCall, a_mMeth, a_mIsi, a_mFld, tyD, isB, a_mPart, a_mNoPart, Rs.bind, Rs.then, RSt.seq, asgn, asSeq, asT, asL, asI, setAll, dAdd_int, dSub_int, dLt_int, dLe_int, dGt_int, dGe_int, dNeg_int, dEq_int, dNe_int, dEq_bl, dNe_bl, dIsN_non, dIsN_int, dIsN_str, dIsN_lst, dIsN_tup, sizeLine_v, listD, d2]
/-! ### seconds of the bands -/
def inc (b : Bd) (sec : Int) (k : Nat) : Int := if (if b.ends.getD k 0 < sec then b.ends.getD k 0 else sec) - b.begins.getD k 0 > 0 then (if b.ends.getD k 0 < sec then b.ends.getD k 0 else sec) - b.begins.getD k 0 else 0
def add1 (b : Bd) (sec : Int) (acc : List Int) (p : Int × Nat) : List Int := acc.set p.1.toNat (acc.getD p.1.toNat 0 + inc b sec p.2)
def ofDay (b : Bd) (wd sec : Int) : List Int := if wd ∈ b.low then sec :: List.replicate 9 0 else b.kinds.zipIdx.foldl (add1 b sec) (List.replicate 10 0)
def BdOk (b : Bd) : Prop := ROk b.rs ∧ LOk b.low
/-- ten, none below 0 or above M -/
def Bnd (M : Int) (l : List Int) : Prop := l.length = 10 ∧ ∀ x ∈ l, 0 ≤ x ∧ x ≤ M
theorem begins_len (b : Bd) : b.begins.length = b.rs.length := by simp [Bd.begins, fstI]
theorem kinds_len (b : Bd) : b.kinds.length = b.rs.length := by simp [Bd.kinds, sndI]
theorem ends_len {b : Bd} (h : BdOk b) : b.ends.length = b.rs.length := by
  have := h.1.l
  simp [Bd.ends, begins_len]
  omega
theorem begins_lo {b : Bd} (h : BdOk b) (k : Nat) : 0 ≤ b.begins.getD k 0 := by
  by_cases hk : k < b.begins.length
  · rw [List.getD_eq_getElem?_getD, List.getElem?_eq_getElem hk]
    have hm : b.begins[k] ∈ b.begins := List.getElem_mem hk
    obtain ⟨r, hr, e⟩ := List.mem_map.mp hm
    have := (h.1.r r hr).1.1
    show 0 ≤ b.begins[k]
    rw [← e]
    exact this
  · rw [List.getD_eq_getElem?_getD, List.getElem?_eq_none (by omega)]
    exact Int.le_refl _
theorem inc_ok {b : Bd} {sec : Int} (h : BdOk b) (hs : 0 ≤ sec) (k : Nat) : 0 ≤ inc b sec k ∧ inc b sec k ≤ sec := by
  have := begins_lo h k
  unfold inc
  repeat (first | split | omega)
theorem add1_ok {b : Bd} {sec M : Int} {acc : List Int} {p : Int × Nat} (h : BdOk b) (hs : 0 ≤ sec ∧ sec ≤ 86400) (ha : Bnd M acc) (hM : 0 ≤ M) : Bnd (M + 86400) (add1 b sec acc p) := by
  obtain ⟨h1, h2⟩ := ha
  have hi := inc_ok h hs.1 p.2
  have hg : 0 ≤ acc.getD p.1.toNat 0 ∧ acc.getD p.1.toNat 0 ≤ M := by
    by_cases hk : p.1.toNat < acc.length
    · rw [List.getD_eq_getElem?_getD, List.getElem?_eq_getElem hk]
      exact h2 _ (List.getElem_mem hk)
    · rw [List.getD_eq_getElem?_getD, List.getElem?_eq_none (by omega)]
      exact ⟨Int.le_refl _, hM⟩
  refine ⟨by unfold add1; simp [h1], fun x hx => ?_⟩
  unfold add1 at hx
  rcases List.mem_or_eq_of_mem_set hx with hx | rfl
  · have := h2 x hx
    omega
  · omega
theorem addF_ok {b : Bd} {sec : Int} (h : BdOk b) (hs : 0 ≤ sec ∧ sec ≤ 86400) : ∀ (ps : List (Int × Nat)) (acc : List Int) (M : Int), 0 ≤ M → Bnd M acc → Bnd (M + 86400 * ps.length) (ps.foldl (add1 b sec) acc)
  | [], acc, M, _, ha => by simpa using ha
  | p :: ps, acc, M, hM, ha => by
    have := addF_ok h hs ps _ (M + 86400) (by omega) (add1_ok (p := p) h hs ha hM)
    rw [List.foldl_cons, List.length_cons]
    have e : M + 86400 + 86400 * (ps.length : Int) = M + 86400 * ((ps.length + 1 : Nat) : Int) := by omega
    rw [← e]
    exact this
theorem Bnd.mono {M M' : Int} {l : List Int} (h : Bnd M l) (hm : M ≤ M') : Bnd M' l := ⟨h.1, fun x hx => by have := h.2 x hx; omega⟩
theorem ofDay_ok {b : Bd} {wd sec : Int} (h : BdOk b) (hs : 0 ≤ sec ∧ sec ≤ 86400) : Bnd 3000000 (ofDay b wd sec) := by
  unfold ofDay
  split
  · refine ⟨by simp, fun x hx => ?_⟩
    rcases List.mem_cons.mp hx with rfl | hx
    · omega
    · rw [(List.mem_replicate.mp hx).2]; decide
  · have := addF_ok h hs b.kinds.zipIdx (List.replicate 10 0) 0 (by omega) ⟨by simp, fun x hx => by rw [(List.mem_replicate.mp hx).2]; decide⟩
    refine this.mono ?_
    have hl := h.1.l
    rw [List.length_zipIdx, kinds_len]
    omega
theorem kinds_ok {b : Bd} (h : BdOk b) {k : Int} (hk : k ∈ b.kinds) : 0 ≤ k ∧ k ≤ 9 := by
  obtain ⟨r, hr, rfl⟩ := List.mem_map.mp hk
  exact (h.1.r r hr).2
theorem ix_ints {xs : List Int} {k : Nat} {S : Sto} (hk : k < xs.length) : dIx (.lst (xs.map .int)) (.int (k : Int)) S = some (.int (xs.getD k 0)) := dIx_lst (Mi.atI_nat (by simp [hk]))
theorem ev_of_day {b : Bd} {wd sec : Int} (S : Sto) (h : BdOk b) (hs : 0 ≤ sec ∧ sec ≤ 86400) : m_Bands_of_day [bD b, .int wd, .int sec] S = .ok (.lst ((ofDay b wd sec).map .int)) S := by
  refine gv_trim rfl ?_ (noRefs_ints _)
  have i10 : (List.replicate 10 [D.int 0]).flatten = (List.replicate 10 (0 : Int)).map D.int := rfl
  refine gv_nx (en1 := [some (bD b), some (.int wd), some (.int sec), some (.ref S.length), none, none]) (S1 := S ++ [.lst ((List.replicate 10 (0 : Int)).map .int)]) ?_ ?_
  · show sAsg _ _ [some (bD b), some (.int wd), some (.int sec), none, none, none] S = _
    simp [a_runB, a_sSeq, a_sAsg, a_sRet, a_sRetN, a_sExp, a_sIf, a_sNil, a_sRaise, a_sFor, a_mBin, a_mUn, a_mVar, a_mC, opt, a_mNil, a_mCons, a_mOpN, asB, a_mTest, a_mAnd, a_mOr, a_mNot, a_mAndV, a_mOrV, a_mNotV, a_mIf, a_mChain, a_mTup, a_mFrz, a_mNew, a_lDis, a_mCall, a_mMeth, a_mIsi, a_mFld, tyD, isB, a_mPart, a_mNoPart, Rs.bind, Rs.then, RSt.seq, asgn, asSeq, asT, asL, asI, setAll, dAdd_int, dSub_int, dLt_int, dLe_int, dGt_int, dGe_int, dNeg_int, dEq_int, dNe_int, dEq_bl, dNe_bl, dIsN_non, dIsN_int, dIsN_str, dIsN_lst, dIsN_tup, sizeLine_v, a_lRep]
  have e1 : ∀ S' : Sto, mIn (fun b => b) (mVar 1) (mFld 4 (mVar 0)) [some (bD b), some (.int wd), some (.int sec), some (.ref S.length), none, none] S' = .ok (.bl (decide (wd ∈ b.low))) S' := fun S' => mIn_ints_lst (f := fun b => b) rfl (fld_obj rfl rfl)
  by_cases hw : wd ∈ b.low
  · have er : ofDay b wd sec = sec :: List.replicate 9 0 := by unfold ofDay; rw [if_pos hw]
    rw [er, a_sSeq, a_sIf, a_mTest, e1, decide_eq_true hw]
    simp only [Rs.bind, asB, Rs.then, if_true]
    refine ⟨[.dead], ?_⟩
    have f1 : sLput (mVar 3) (mC (.int 0)) (mVar 2) [some (bD b), some (.int wd), some (.int sec), some (.ref S.length), none, none] (S ++ [.lst ((List.replicate 10 (0 : Int)).map .int)]) = .nx [some (bD b), some (.int wd), some (.int sec), some (.ref S.length), none, none] (S ++ [.lst ((sec :: List.replicate 9 0).map .int)]) := by
      rw [lput_ok (j := 0) rfl rfl rfl get_last (by simp), set_last]
      rfl
    have f2 : mFreeze (mVar 3) [some (bD b), some (.int wd), some (.int sec), some (.ref S.length), none, none] (S ++ [.lst ((sec :: List.replicate 9 0).map .int)]) = .ok (.lst ((sec :: List.replicate 9 0).map .int)) (S ++ [.dead]) := by
      rw [freeze_ref (i := S.length) rfl get_last, set_last]
      intro d hd
      obtain ⟨r, _, rfl⟩ := List.mem_map.mp hd
      rfl
    rw [a_sSeq, f1]
    simp only [RSt.seq]
    rw [a_sRet, f2]
    rfl
  · have er : ofDay b wd sec = b.kinds.zipIdx.foldl (add1 b sec) (List.replicate 10 0) := by unfold ofDay; rw [if_neg hw]
    rw [er]
    refine gv_nx (en1 := [some (bD b), some (.int wd), some (.int sec), some (.ref S.length), none, none]) (S1 := S ++ [.lst ((List.replicate 10 (0 : Int)).map .int)]) ?_ ?_
    · rw [a_sIf, a_mTest, e1, decide_eq_false hw]
      rfl
    have e3 : ∀ o4 o5 S', mFld 3 (mVar 0) [some (bD b), some (.int wd), some (.int sec), some (.ref S.length), o4, o5] S' = .ok (.lst (b.kinds.map .int)) S' := fun _ _ _ => fld_obj rfl rfl
    refine gv_for b.kinds.zipIdx (fun p => D.tup [.int (p.2 : Int), .int p.1]) (fun rest en S' => ∃ o4 o5 acc M, en = [some (bD b), some (.int wd), some (.int sec), some (.ref S.length), o4, o5] ∧ S' = S ++ [.lst (acc.map .int)] ∧ Bnd M acc ∧ 0 ≤ M ∧ rest.foldl (add1 b sec) acc = b.kinds.zipIdx.foldl (add1 b sec) (List.replicate 10 0) ∧ ∀ p ∈ rest, p ∈ b.kinds.zipIdx)
      (iEnum_lst (ds := b.kinds.map .int) (by rw [a_mCons, e3]; rfl)) (enumD_map _ _) ⟨none, none, _, 0, rfl, rfl, ⟨by simp, fun x hx => by rw [(List.mem_replicate.mp hx).2]; decide⟩, by omega, rfl, fun p hp => hp⟩ (fun _ _ _ _ => rfl) ?_ ?_
    · rintro p rest en S' ⟨o4, o5, acc, M, rfl, rfl, hB, hM, hf, hm⟩
      have hp := hm p List.mem_cons_self
      have hk := kinds_ok h (List.fst_mem_of_mem_zipIdx hp)
      have hi : p.2 < b.kinds.length := by have := List.snd_lt_of_mem_zipIdx hp; omega
      rw [kinds_len] at hi
      refine ⟨[some (bD b), some (.int wd), some (.int sec), some (.ref S.length), some (.int (p.2 : Int)), some (.int p.1)], rfl, .inl ⟨_, _, laug_ok (j := p.1.toNat) (xs := acc) (y := inc b sec p.2) rfl get_last (by simp [a_mVar]; omega) (by rw [hB.1]; omega) ?_, some (.int (p.2 : Int)), some (.int p.1), add1 b sec acc p, M + 86400, rfl, ?_, add1_ok h hs hB hM, by omega, hf, fun q hq => hm q (List.mem_cons_of_mem _ hq)⟩⟩
      · have g1 : ∀ o4 o5 S', mFld 2 (mVar 0) [some (bD b), some (.int wd), some (.int sec), some (.ref S.length), o4, o5] S' = .ok (.lst (b.ends.map .int)) S' := fun _ _ _ => fld_obj rfl rfl
        have g2 : ∀ o4 o5 S', mFld 1 (mVar 0) [some (bD b), some (.int wd), some (.int sec), some (.ref S.length), o4, o5] S' = .ok (.lst (b.begins.map .int)) S' := fun _ _ _ => fld_obj rfl rfl
        have d1 := fun S' => ix_ints (S := S') (xs := b.ends) (k := p.2) (by rw [ends_len h]; exact hi)
        have d2 := fun S' => ix_ints (S := S') (xs := b.begins) (k := p.2) (by rw [begins_len]; exact hi)
        simp [↓g1, ↓g2, a_runB, a_sSeq, a_sAsg, a_sRet, a_sRetN, a_sExp, a_sIf, a_sNil, a_sRaise, a_sFor, a_mBin, a_mUn, a_mVar, a_mC, opt, a_mNil, a_mCons, a_mOpN, asB, a_mTest, a_mAnd, a_mOr, a_mNot, a_mAndV, a_mOrV, a_mNotV, a_mIf, a_mChain, a_mTup, a_mFrz, a_mNew, a_lDis, a_mCall, a_mMeth, a_mIsi, a_mFld, tyD, isB, a_mPart, a_mNoPart, Rs.bind, Rs.then, RSt.seq, asgn, asSeq, asT, asL, asI, setAll, dAdd_int, dSub_int, dLt_int, dLe_int, dGt_int, dGe_int, dNeg_int, dEq_int, dNe_int, dEq_bl, dNe_bl, dIsN_non, dIsN_int, dIsN_str, dIsN_lst, dIsN_tup, sizeLine_v, d1, d2, oMax2, oMin2, inc]
      · rw [set_last]
        rfl
    · rintro en S' ⟨o4, o5, acc, M, rfl, rfl, hB, hM, hf, hm⟩
      have hf : acc = b.kinds.zipIdx.foldl (add1 b sec) (List.replicate 10 0) := hf
      rw [← hf]
      refine gv_ret (J := [.dead]) ?_
      rw [freeze_ref (i := S.length) rfl get_last, set_last]
      intro d hd
      obtain ⟨r, _, rfl⟩ := List.mem_map.mp hd
      rfl
def dys (weeks left : Int) (wd : Nat) : Int := weeks + (if (wd : Int) < left then 1 else 0)
def astep (b : Bd) (weeks left : Int) (acc : List Int) (wd : Nat) : List Int := (acc.zip (ofDay b wd 86400)).map fun p => p.1 + dys weeks left wd * p.2
def ah (b : Bd) (t : Int) : List Int := (List.range 7).foldl (astep b (t / 86400 / 7) (t / 86400 % 7)) (ofDay b (t / 86400 % 7) (t % 86400))
theorem astep_ok {b : Bd} {weeks left M : Int} {acc : List Int} {wd : Nat} (h : BdOk b) (hw : 0 ≤ weeks ∧ weeks ≤ 2000000000) (ha : Bnd M acc) : Bnd (M + 10000000000000000) (astep b weeks left acc wd) := by
  have ho := ofDay_ok (wd := (wd : Int)) (sec := 86400) h (by decide)
  refine ⟨by simp [astep, ha.1, ho.1], fun x hx => ?_⟩
  obtain ⟨p, hp, rfl⟩ := List.mem_map.mp hx
  have h1 := ha.2 p.1 (List.of_mem_zip hp).1
  have h2 := ho.2 p.2 (List.of_mem_zip hp).2
  have hd : 0 ≤ dys weeks left wd ∧ dys weeks left wd ≤ 2000000001 := by unfold dys; split <;> omega
  have h3 : 0 ≤ dys weeks left wd * p.2 := Int.mul_nonneg hd.1 h2.1
  have h4 : dys weeks left wd * p.2 ≤ 2000000001 * 3000000 := Int.mul_le_mul hd.2 h2.2 h2.1 (by decide)
  omega
theorem asF_ok {b : Bd} {weeks left : Int} (h : BdOk b) (hw : 0 ≤ weeks ∧ weeks ≤ 2000000000) : ∀ (ks : List Nat) (acc : List Int) (M : Int), Bnd M acc → Bnd (M + 10000000000000000 * ks.length) (ks.foldl (astep b weeks left) acc)
  | [], acc, M, ha => by simpa using ha
  | k :: ks, acc, M, ha => by
    have := asF_ok (left := left) h hw ks _ (M + 10000000000000000) (astep_ok (left := left) (wd := k) h hw ha)
    rw [List.foldl_cons, List.length_cons]
    have e : M + 10000000000000000 + 10000000000000000 * (ks.length : Int) = M + 10000000000000000 * ((ks.length + 1 : Nat) : Int) := by omega
    rw [← e]
    exact this
theorem ah_ok {b : Bd} {t : Int} (h : BdOk b) (ht : 0 ≤ t ∧ t ≤ 1000000000000000) : Bnd 80000000000000000 (ah b t) := by
  have := asF_ok (left := t / 86400 % 7) h (weeks := t / 86400 / 7) (by omega) (List.range 7) _ _ (ofDay_ok (wd := t / 86400 % 7) (sec := t % 86400) h (by omega))
  refine Bnd.mono this ?_
  rw [List.length_range]
  decide
theorem ev_ahead_of {b : Bd} {t : Int} (S : Sto) (h : BdOk b) (ht : 0 ≤ t ∧ t ≤ 1000000000000000) : m_Bands_ahead_of [bD b, .int t] S = .ok (.lst ((ah b t).map .int)) S := by
  refine gv_trim rfl ?_ (noRefs_ints _)
  refine gv_nx (en1 := [some (bD b), some (.int t), some (.int (t / 86400)), some (.int (t % 86400)), none, none, none, none, none, none, none]) (S1 := S) ?_ ?_
  · show sAsg _ _ [some (bD b), some (.int t), none, none, none, none, none, none, none, none, none] S = _
    simp [a_runB, a_sSeq, a_sAsg, a_sRet, a_sRetN, a_sExp, a_sIf, a_sNil, a_sRaise, a_sFor, a_mBin, a_mUn, a_mVar, a_mC, opt, a_mNil, a_mCons, a_mOpN, asB, a_mTest, a_mAnd, a_mOr, a_mNot, a_mAndV, a_mOrV, a_mNotV, a_mIf, a_mChain, a_mTup, a_mFrz, a_mNew, a_lDis, a_mCall, a_mMeth, a_mIsi, a_mFld, tyD, isB, a_mPart, a_mNoPart, Rs.bind, Rs.then, RSt.seq, asgn, asSeq, asT, asL, asI, setAll, dAdd_int, dSub_int, dLt_int, dLe_int, dGt_int, dGe_int, dNeg_int, dEq_int, dNe_int, dEq_bl, dNe_bl, dIsN_non, dIsN_int, dIsN_str, dIsN_lst, dIsN_tup, sizeLine_v, oDivmod]
  refine gv_nx (en1 := [some (bD b), some (.int t), some (.int (t / 86400)), some (.int (t % 86400)), some (.int (t / 86400 / 7)), some (.int (t / 86400 % 7)), none, none, none, none, none]) (S1 := S) ?_ ?_
  · simp [a_runB, a_sSeq, a_sAsg, a_sRet, a_sRetN, a_sExp, a_sIf, a_sNil, a_sRaise, a_sFor, a_mBin, a_mUn, a_mVar, a_mC, opt, a_mNil, a_mCons, a_mOpN, asB, a_mTest, a_mAnd, a_mOr, a_mNot, a_mAndV, a_mOrV, a_mNotV, a_mIf, a_mChain, a_mTup, a_mFrz, a_mNew, a_lDis, a_mCall, a_mMeth, a_mIsi, a_mFld, tyD, isB, a_mPart, a_mNoPart, Rs.bind, Rs.then, RSt.seq, asgn, asSeq, asT, asL, asI, setAll, dAdd_int, dSub_int, dLt_int, dLe_int, dGt_int, dGe_int, dNeg_int, dEq_int, dNe_int, dEq_bl, dNe_bl, dIsN_non, dIsN_int, dIsN_str, dIsN_lst, dIsN_tup, sizeLine_v, oDivmod]
  have e1 : mMeth [(7, m_Bands_of_day)] [] (mVar 0) (mCons (mVar 5) (mCons (mVar 3) (mNil))) [some (bD b), some (.int t), some (.int (t / 86400)), some (.int (t % 86400)), some (.int (t / 86400 / 7)), some (.int (t / 86400 % 7)), none, none, none, none, none] S = .ok (.lst ((ofDay b (t / 86400 % 7) (t % 86400)).map .int)) S := meth_obj rfl rfl rfl (ev_of_day S h (by omega))
  refine gv_nx (en1 := [some (bD b), some (.int t), some (.int (t / 86400)), some (.int (t % 86400)), some (.int (t / 86400 / 7)), some (.int (t / 86400 % 7)), some (.lst ((ofDay b (t / 86400 % 7) (t % 86400)).map .int)), none, none, none, none]) (S1 := S) ?_ ?_
  · rw [a_sAsg, e1]
    rfl
  refine gv_for (List.range 7) (fun (k : Nat) => D.int (k : Int)) (fun ks en S' => ∃ acc M o7 o8, en = [some (bD b), some (.int t), some (.int (t / 86400)), some (.int (t % 86400)), some (.int (t / 86400 / 7)), some (.int (t / 86400 % 7)), some (.lst (acc.map .int)), o7, o8, none, none] ∧ S' = S ∧ Bnd M acc ∧ ks.foldl (astep b (t / 86400 / 7) (t / 86400 % 7)) acc = ah b t)
    (iRange1_ok (j := 7) rfl (by decide)) rfl ⟨_, 3000000, none, none, rfl, rfl, ofDay_ok h (by omega), rfl⟩ (fun _ _ _ _ => rfl) ?_ ?_
  · rintro k ks en S' ⟨acc, M, o7, o8, rfl, rfl, hB, hf⟩
    refine ⟨_, rfl, .inl ⟨[some (bD b), some (.int t), some (.int (t / 86400)), some (.int (t % 86400)), some (.int (t / 86400 / 7)), some (.int (t / 86400 % 7)), some (.lst ((astep b (t / 86400 / 7) (t / 86400 % 7) acc k).map .int)), some (.int (k : Int)), some (.int (dys (t / 86400 / 7) (t / 86400 % 7) k)), none, none], S', ?_, _, _, _, _, rfl, rfl, astep_ok h (by omega) hB, hf⟩⟩
    have f1 : sAsg (.nm 8) (mBin dAdd (mVar 4) (mOpN oInt (mCons (mBin dLt (mVar 7) (mVar 5)) (mNil)))) [some (bD b), some (.int t), some (.int (t / 86400)), some (.int (t % 86400)), some (.int (t / 86400 / 7)), some (.int (t / 86400 % 7)), some (.lst (acc.map .int)), some (.int (k : Int)), o8, none, none] S' = .nx [some (bD b), some (.int t), some (.int (t / 86400)), some (.int (t % 86400)), some (.int (t / 86400 / 7)), some (.int (t / 86400 % 7)), some (.lst (acc.map .int)), some (.int (k : Int)), some (.int (dys (t / 86400 / 7) (t / 86400 % 7) k)), none, none] S' := by
      simp [a_runB, a_sSeq, a_sAsg, a_sRet, a_sRetN, a_sExp, a_sIf, a_sNil, a_sRaise, a_sFor, a_mBin, a_mUn, a_mVar, a_mC, opt, a_mNil, a_mCons, a_mOpN, asB, a_mTest, a_mAnd, a_mOr, a_mNot, a_mAndV, a_mOrV, a_mNotV, a_mIf, a_mChain, a_mTup, a_mFrz, a_mNew, a_lDis, a_mCall, a_mMeth, a_mIsi, a_mFld, tyD, isB, a_mPart, a_mNoPart, Rs.bind, Rs.then, RSt.seq, asgn, asSeq, asT, asL, asI, setAll, dAdd_int, dSub_int, dLt_int, dLe_int, dGt_int, dGe_int, dNeg_int, dEq_int, dNe_int, dEq_bl, dNe_bl, dIsN_non, dIsN_int, dIsN_str, dIsN_lst, dIsN_tup, sizeLine_v, oInt, dys]
    have e2 : mMeth [(7, m_Bands_of_day)] [] (mVar 0) (mCons (mVar 7) (mCons (mC (.int 86400)) (mNil))) [some (bD b), some (.int t), some (.int (t / 86400)), some (.int (t % 86400)), some (.int (t / 86400 / 7)), some (.int (t / 86400 % 7)), some (.lst (acc.map .int)), some (.int (k : Int)), some (.int (dys (t / 86400 / 7) (t / 86400 % 7) k)), none, none] S' = .ok (.lst ((ofDay b k 86400).map .int)) S' := meth_obj rfl rfl rfl (ev_of_day S' h (by decide))
    have hd : Sm (dys (t / 86400 / 7) (t / 86400 % 7) k) := sm_of (by unfold dys; split <;> omega)
    have ho := ofDay_ok (wd := (k : Int)) (sec := 86400) h (by decide)
    have e3 : lComp (iZipD (mCons (mVar 6) (mCons (mMeth [(7, m_Bands_of_day)] [] (mVar 0) (mCons (mVar 7) (mCons (mC (.int 86400)) (mNil)))) (mNil)))) (.tp [9, 10]) (mYes) (mBin dAdd (mVar 9) (mBin dMulI (mVar 8) (mVar 10))) [9, 10] [some (bD b), some (.int t), some (.int (t / 86400)), some (.int (t % 86400)), some (.int (t / 86400 / 7)), some (.int (t / 86400 % 7)), some (.lst (acc.map .int)), some (.int (k : Int)), some (.int (dys (t / 86400 / 7) (t / 86400 % 7) k)), none, none] S' = .ok ((astep b (t / 86400 / 7) (t / 86400 % 7) acc k).map .int) S' := by
      rw [lComp_map (acc.zip (ofDay b k 86400)) (fun p => D.tup [.int p.1, .int p.2]) (fun p => D.int (p.1 + dys (t / 86400 / 7) (t / 86400 % 7) k * p.2)) (iZip_lst (ds := acc.map .int) (es := (ofDay b k 86400).map .int) (cons2_ok rfl e2)) (zipD_map _ _ _ _) rfl (by rw [sizeLine_v, List.length_zip, hB.1]; omega) fun p hp => ⟨_, rfl, ?_⟩]
      · unfold astep
        rw [List.map_map]
        rfl
      · have hs : Sm p.2 := sm_of (by have := ho.2 p.2 (List.of_mem_zip hp).2; omega)
        simp [a_runB, a_sSeq, a_sAsg, a_sRet, a_sRetN, a_sExp, a_sIf, a_sNil, a_sRaise, a_sFor, a_mBin, a_mUn, a_mVar, a_mC, opt, a_mNil, a_mCons, a_mOpN, asB, a_mTest, a_mAnd, a_mOr, a_mNot, a_mAndV, a_mOrV, a_mNotV, a_mIf, a_mChain, a_mTup, a_mFrz, a_mNew, a_lDis, a_mCall, a_mMeth, a_mIsi, a_mFld, tyD, isB, a_mPart, a_mNoPart, Rs.bind, Rs.then, RSt.seq, asgn, asSeq, asT, asL, asI, setAll, dAdd_int, dSub_int, dLt_int, dLe_int, dGt_int, dGe_int, dNeg_int, dEq_int, dNe_int, dEq_bl, dNe_bl, dIsN_non, dIsN_int, dIsN_str, dIsN_lst, dIsN_tup, sizeLine_v, wipeD, dMulI_sm, hd, hs]
    rw [a_sSeq]
    show (sAsg (.nm 8) _ [some (bD b), some (.int t), some (.int (t / 86400)), some (.int (t % 86400)), some (.int (t / 86400 / 7)), some (.int (t / 86400 % 7)), some (.lst (acc.map .int)), some (.int (k : Int)), o8, none, none] S').seq _ = _
    rw [f1]
    simp only [RSt.seq]
    rw [a_sAsg, a_mFrz, e3]
    rfl
  · rintro en S' ⟨acc, M, o7, o8, rfl, rfl, hB, hf⟩
    have hf : acc = ah b t := hf
    rw [← hf]
    exact gv_ret (J := []) (by simp [a_mVar])
def secs (b : Bd) (s e : Int) : List Int := ((ah b e).zip (ah b s)).map fun p => p.1 - p.2
theorem secs_ok {b : Bd} {s e : Int} (h : BdOk b) (hs : 0 ≤ s ∧ s ≤ 1000000000000000) (he : 0 ≤ e ∧ e ≤ 1000000000000000) : (secs b s e).length = 10 ∧ ∀ x ∈ secs b s e, -80000000000000000 ≤ x ∧ x ≤ 80000000000000000 := by
  have h1 := ah_ok h hs
  have h2 := ah_ok h he
  refine ⟨by simp [secs, h1.1, h2.1], fun x hx => ?_⟩
  obtain ⟨p, hp, rfl⟩ := List.mem_map.mp hx
  have a1 := h2.2 p.1 (List.of_mem_zip hp).1
  have a2 := h1.2 p.2 (List.of_mem_zip hp).2
  omega
theorem ev_seconds {b : Bd} {s e : Int} (S : Sto) (h : BdOk b) (hs : 0 ≤ s) (hse : s ≤ e) (he : e ≤ 1000000000000000) : m_Bands_seconds [bD b, .int s, .int e] S = .ok (.lst ((secs b s e).map .int)) S := by
  refine gv_trim rfl ?_ (noRefs_ints _)
  have n1 := ev_need_time (t := s) S (by omega)
  have n2 := ev_need_time (t := e) S (by omega)
  refine gv_nx (en1 := [some (bD b), some (.int s), some (.int e), none, none]) (S1 := S) ?_ ?_
  · show sExp _ [some (bD b), some (.int s), some (.int e), none, none] S = _
    simp [a_runB, a_sSeq, a_sAsg, a_sRet, a_sRetN, a_sExp, a_sIf, a_sNil, a_sRaise, a_sFor, a_mBin, a_mUn, a_mVar, a_mC, opt, a_mNil, a_mCons, a_mOpN, asB, a_mTest, a_mAnd, a_mOr, a_mNot, a_mAndV, a_mOrV, a_mNotV, a_mIf, a_mChain, a_mTup, a_mFrz, a_mNew, a_lDis, a_mCall, a_mMeth, a_mIsi, a_mFld, tyD, isB, a_mPart, a_mNoPart, Rs.bind, Rs.then, RSt.seq, asgn, asSeq, asT, asL, asI, setAll, dAdd_int, dSub_int, dLt_int, dLe_int, dGt_int, dGe_int, dNeg_int, dEq_int, dNe_int, dEq_bl, dNe_bl, dIsN_non, dIsN_int, dIsN_str, dIsN_lst, dIsN_tup, sizeLine_v, n1]
  refine gv_nx (en1 := [some (bD b), some (.int s), some (.int e), none, none]) (S1 := S) (by simp [a_runB, a_sSeq, a_sAsg, a_sRet, a_sRetN, a_sExp, a_sIf, a_sNil, a_sRaise, a_sFor, a_mBin, a_mUn, a_mVar, a_mC, opt, a_mNil, a_mCons, a_mOpN, asB, a_mTest, a_mAnd, a_mOr, a_mNot, a_mAndV, a_mOrV, a_mNotV, a_mIf, a_mChain, a_mTup, a_mFrz, a_mNew, a_lDis, a_mCall, a_mMeth, a_mIsi, a_mFld, tyD, isB, a_mPart, a_mNoPart, Rs.bind, Rs.then, RSt.seq, asgn, asSeq, asT, asL, asI, setAll, dAdd_int, dSub_int, dLt_int, dLe_int, dGt_int, dGe_int, dNeg_int, dEq_int, dNe_int, dEq_bl, dNe_bl, dIsN_non, dIsN_int, dIsN_str, dIsN_lst, dIsN_tup, sizeLine_v, n2]) ?_
  refine gv_nx (en1 := [some (bD b), some (.int s), some (.int e), none, none]) (S1 := S) (by simp [a_runB, a_sSeq, a_sAsg, a_sRet, a_sRetN, a_sExp, a_sIf, a_sNil, a_sRaise, a_sFor, a_mBin, a_mUn, a_mVar, a_mC, opt, a_mNil, a_mCons, a_mOpN, asB, a_mTest, a_mAnd, a_mOr, a_mNot, a_mAndV, a_mOrV, a_mNotV, a_mIf, a_mChain, a_mTup, a_mFrz, a_mNew, a_lDis, a_mCall, a_mMeth, a_mIsi, a_mFld, tyD, isB, a_mPart, a_mNoPart, Rs.bind, Rs.then, RSt.seq, asgn, asSeq, asT, asL, asI, setAll, dAdd_int, dSub_int, dLt_int, dLe_int, dGt_int, dGe_int, dNeg_int, dEq_int, dNe_int, dEq_bl, dNe_bl, dIsN_non, dIsN_int, dIsN_str, dIsN_lst, dIsN_tup, sizeLine_v]; omega) ?_
  have e1 : mMeth [(7, m_Bands_ahead_of)] [] (mVar 0) (mCons (mVar 2) (mNil)) [some (bD b), some (.int s), some (.int e), none, none] S = .ok (.lst ((ah b e).map .int)) S := meth_obj rfl rfl rfl (ev_ahead_of S h (by omega))
  have e2 : mMeth [(7, m_Bands_ahead_of)] [] (mVar 0) (mCons (mVar 1) (mNil)) [some (bD b), some (.int s), some (.int e), none, none] S = .ok (.lst ((ah b s).map .int)) S := meth_obj rfl rfl rfl (ev_ahead_of S h (by omega))
  refine gv_ret (J := []) ?_
  have l1 := (ah_ok (b := b) (t := e) h (by omega)).1
  rw [a_mFrz, lComp_map ((ah b e).zip (ah b s)) (fun p => D.tup [.int p.1, .int p.2]) (fun p => D.int (p.1 - p.2)) (iZip_lst (ds := (ah b e).map .int) (es := (ah b s).map .int) (cons2_ok e1 e2)) (zipD_map _ _ _ _) rfl (by rw [sizeLine_v, List.length_zip, l1]; omega) fun p hp => ⟨_, rfl, ?_⟩]
  · unfold secs
    rw [List.map_map]
    simp [Rs.bind]
  · simp [a_runB, a_sSeq, a_sAsg, a_sRet, a_sRetN, a_sExp, a_sIf, a_sNil, a_sRaise, a_sFor, a_mBin, a_mUn, a_mVar, a_mC, opt, a_mNil, a_mCons, a_mOpN, asB, a_mTest, a_mAnd, a_mOr, a_mNot, a_mAndV, a_mOrV, a_mNotV, a_mIf, a_mChain, a_mTup, a_mFrz, a_mNew, a_lDis, a_mCall, a_mMeth, a_mIsi, a_mFld, tyD, isB, a_mPart, a_mNoPart, Rs.bind, Rs.then, RSt.seq, asgn, asSeq, asT, asL, asI, setAll, dAdd_int, dSub_int, dLt_int, dLe_int, dGt_int, dGe_int, dNeg_int, dEq_int, dNe_int, dEq_bl, dNe_bl, dIsN_non, dIsN_int, dIsN_str, dIsN_lst, dIsN_tup, sizeLine_v, wipeD]
def cost (b : Bd) (s e : Int) (l : List Int) : Int := (((secs b s e).zip l).map fun p => p.1 * p.2).sum
theorem ev_cost {b : Bd} {s e : Int} {l : List Int} (S : Sto) (h : BdOk b) (hl : PrOk l) (hs : 0 ≤ s) (hse : s ≤ e) (he : e ≤ 1000000000000000) : m_Bands_cost [bD b, .int s, .int e, .lst (l.map .int)] S = .ok (.int (cost b s e l)) S := by
  refine gv_trim rfl ?_ rfl
  have n1 := ev_need_prices S hl
  refine gv_nx (en1 := [some (bD b), some (.int s), some (.int e), some (.lst (l.map .int)), none, none]) (S1 := S) ?_ ?_
  · show sExp _ [some (bD b), some (.int s), some (.int e), some (.lst (l.map .int)), none, none] S = _
    simp [a_runB, a_sSeq, a_sAsg, a_sRet, a_sRetN, a_sExp, a_sIf, a_sNil, a_sRaise, a_sFor, a_mBin, a_mUn, a_mVar, a_mC, opt, a_mNil, a_mCons, a_mOpN, asB, a_mTest, a_mAnd, a_mOr, a_mNot, a_mAndV, a_mOrV, a_mNotV, a_mIf, a_mChain, a_mTup, a_mFrz, a_mNew, a_lDis, a_mCall, a_mMeth, a_mIsi, a_mFld, tyD, isB, a_mPart, a_mNoPart, Rs.bind, Rs.then, RSt.seq, asgn, asSeq, asT, asL, asI, setAll, dAdd_int, dSub_int, dLt_int, dLe_int, dGt_int, dGe_int, dNeg_int, dEq_int, dNe_int, dEq_bl, dNe_bl, dIsN_non, dIsN_int, dIsN_str, dIsN_lst, dIsN_tup, sizeLine_v, n1]
  have e1 : mMeth [(7, m_Bands_seconds)] [] (mVar 0) (mCons (mVar 1) (mCons (mVar 2) (mNil))) [some (bD b), some (.int s), some (.int e), some (.lst (l.map .int)), none, none] S = .ok (.lst ((secs b s e).map .int)) S := meth_obj rfl rfl rfl (ev_seconds S h hs hse he)
  have hk := secs_ok (b := b) (s := s) (e := e) h (by omega) (by omega)
  refine gv_ret (J := []) ?_
  rw [sum_comp ((secs b s e).zip l) (fun p => D.tup [.int p.1, .int p.2]) (fun p => p.1 * p.2) (iZip_lst (ds := (secs b s e).map .int) (es := l.map .int) (cons2_ok e1 rfl)) (zipD_map _ _ _ _) rfl (by rw [sizeLine_v, List.length_zip, hk.1]; omega) fun p hp => ⟨_, rfl, ?_⟩]
  · simp [cost]
  · have h1 := hk.2 p.1 (List.of_mem_zip hp).1
    have h2 := hl.2 p.2 (List.of_mem_zip hp).2
    have s1 : Sm p.1 := sm_of (by omega)
    have s2 : Sm p.2 := sm_of (by omega)
    simp [a_runB, a_sSeq, a_sAsg, a_sRet, a_sRetN, a_sExp, a_sIf, a_sNil, a_sRaise, a_sFor, a_mBin, a_mUn, a_mVar, a_mC, opt, a_mNil, a_mCons, a_mOpN, asB, a_mTest, a_mAnd, a_mOr, a_mNot, a_mAndV, a_mOrV, a_mNotV, a_mIf, a_mChain, a_mTup, a_mFrz, a_mNew, a_lDis, a_mCall, a_mMeth, a_mIsi, a_mFld, tyD, isB, a_mPart, a_mNoPart, Rs.bind, Rs.then, RSt.seq, asgn, asSeq, asT, asL, asI, setAll, dAdd_int, dSub_int, dLt_int, dLe_int, dGt_int, dGe_int, dNeg_int, dEq_int, dNe_int, dEq_bl, dNe_bl, dIsN_non, dIsN_int, dIsN_str, dIsN_lst, dIsN_tup, sizeLine_v, wipeD, dMulI_sm, s1, s2]
def price (b : Bd) (rs : List (Str × List Int)) (a : Acct) : Int := match pf rs a.n with
  | none => 0
  | some l => cost b a.b a.e l
theorem pf_ok {rs : List (Str × List Int)} {n : Str} {l : List Int} (h : POk rs) (e : pf rs n = some l) : PrOk l := by
  unfold pf at e
  cases hl : lg rs n n.length with
  | none => rw [hl] at e; cases e
  | some x =>
    rw [hl] at e
    obtain ⟨l', h1, h2⟩ := look_some (lg_mem hl)
    have : look rs x = some l := e
    rw [h1] at this
    cases this
    exact h.p _ h2
theorem ev_price {b : Bd} {rs : List (Str × List Int)} {a : Acct} (S : Sto) (h : BdOk b) (hr : POk rs) (ha : AOk a) : m_Tariff_price [tarD b rs, aD a] S = .ok (.int (price b rs a)) S := by
  refine gv_trim rfl ?_ rfl
  have hn : a.n.length ≤ 1000 := by have := ha.n.2.1; omega
  refine gv_nx (en1 := [some (tarD b rs), some (aD a), some (.int a.p), some (.str a.n), some (.int a.b), some (.int a.e), none]) (S1 := S) rfl ?_
  have e1 : mMeth [(9, m_Tariff_prices_of)] [] (mVar 0) (mCons (mVar 3) (mNil)) [some (tarD b rs), some (aD a), some (.int a.p), some (.str a.n), some (.int a.b), some (.int a.e), none] S = .ok (listD (pf rs a.n)) S := meth_obj rfl rfl rfl (ev_prices_of S hn)
  refine gv_nx (en1 := [some (tarD b rs), some (aD a), some (.int a.p), some (.str a.n), some (.int a.b), some (.int a.e), some (listD (pf rs a.n))]) (S1 := S) (by rw [a_sAsg, e1]; rfl) ?_
  cases hp : pf rs a.n with
  | none =>
    have : price b rs a = 0 := by unfold price; rw [hp]
    rw [this]
    refine ⟨[], ?_⟩
    simp [a_runB, a_sSeq, a_sAsg, a_sRet, a_sRetN, a_sExp, a_sIf, a_sNil, a_sRaise, a_sFor, a_mBin, a_mUn, a_mVar, a_mC, opt, a_mNil, a_mCons, a_mOpN, asB, a_mTest, a_mAnd, a_mOr, a_mNot, a_mAndV, a_mOrV, a_mNotV, a_mIf, a_mChain, a_mTup, a_mFrz, a_mNew, a_lDis, a_mCall, a_mMeth, a_mIsi, a_mFld, tyD, isB, a_mPart, a_mNoPart, Rs.bind, Rs.then, RSt.seq, asgn, asSeq, asT, asL, asI, setAll, dAdd_int, dSub_int, dLt_int, dLe_int, dGt_int, dGe_int, dNeg_int, dEq_int, dNe_int, dEq_bl, dNe_bl, dIsN_non, dIsN_int, dIsN_str, dIsN_lst, dIsN_tup, sizeLine_v, listD]
  | some l =>
    have : price b rs a = cost b a.b a.e l := by unfold price; rw [hp]
    rw [this]
    refine gv_nx (en1 := [some (tarD b rs), some (aD a), some (.int a.p), some (.str a.n), some (.int a.b), some (.int a.e), some (.lst (l.map .int))]) (S1 := S) (by simp [a_runB, a_sSeq, a_sAsg, a_sRet, a_sRetN, a_sExp, a_sIf, a_sNil, a_sRaise, a_sFor, a_mBin, a_mUn, a_mVar, a_mC, opt, a_mNil, a_mCons, a_mOpN, asB, a_mTest, a_mAnd, a_mOr, a_mNot, a_mAndV, a_mOrV, a_mNotV, a_mIf, a_mChain, a_mTup, a_mFrz, a_mNew, a_lDis, a_mCall, a_mMeth, a_mIsi, a_mFld, tyD, isB, a_mPart, a_mNoPart, Rs.bind, Rs.then, RSt.seq, asgn, asSeq, asT, asL, asI, setAll, dAdd_int, dSub_int, dLt_int, dLe_int, dGt_int, dGe_int, dNeg_int, dEq_int, dNe_int, dEq_bl, dNe_bl, dIsN_non, dIsN_int, dIsN_str, dIsN_lst, dIsN_tup, sizeLine_v, listD]) ?_
    refine gv_ret (J := []) ?_
    have e2 : mFld 7 (mVar 0) [some (tarD b rs), some (aD a), some (.int a.p), some (.str a.n), some (.int a.b), some (.int a.e), some (.lst (l.map .int))] S = .ok (bD b) S := fld_obj rfl rfl
    rw [List.append_nil]
    exact meth_obj e2 rfl rfl (ev_cost S h (pf_ok hr hp) ha.b ha.be ha.e)
end Gk84
namespace Gk84
open PySem L2 Mi
/-! ### bills -/
section
variable {b : Bd} {rs : List (Str × List Int)} {as : List Acct} {p : Int} (S : Sto)
def bRow (b : Bd) (rs : List (Str × List Int)) (a : Acct) : D := .tup [aD a, .int (price b rs a)]
def mine (p : Int) (as : List Acct) : List Acct := as.filter fun a => decide (a.p = p)
def tot (b : Bd) (rs : List (Str × List Int)) (p : Int) (as : List Acct) : Int := ((mine p as).map (price b rs)).sum
structure AsOk (as : List Acct) : Prop where
  a : ∀ a ∈ as, AOk a
  l : as.length ≤ 63
theorem ev_bill (h : BdOk b) (hr : POk rs) (ha : AsOk as) : m_bill [tarD b rs, .lst (as.map aD), .int p] S = .ok (.tup [.ref S.length, .int (tot b rs p as)]) (S ++ [.lst ((mine p as).map (bRow b rs))]) := by
  refine trim_id ?_ rfl
  have hz : as.length ≤ sizeLine := by have := ha.l; rw [sizeLine_v]; omega
  have hz2 : (mine p as).length ≤ sizeLine := Nat.le_trans (List.length_filter_le _ _) hz
  have e1 : sAsg (.nm 3) (mNew (lComp (iSeq (mVar 1)) (.nm 4) (mTest (mBin dEq (mBin dIx (mVar 4) (mC (.int 0))) (mVar 2))) (mTup (mCons (mVar 4) (mCons (mMeth [(9, m_Tariff_price)] [] (mVar 0) (mCons (mVar 4) (mNil))) (mNil)))) [4])) [some (tarD b rs), some (.lst (as.map aD)), some (.int p), none, none, none] S = .nx [some (tarD b rs), some (.lst (as.map aD)), some (.int p), some (.ref S.length), none, none] (S ++ [.lst ((mine p as).map (bRow b rs))]) := by
    rw [a_sAsg, a_mNew, lComp_fil as aD (fun a => decide (a.p = p)) (bRow b rs) (iSeq_lst rfl) rfl rfl hz fun a ha1 => ⟨_, rfl, ?_, fun _ => ?_⟩]
    · rfl
    · have d1 : dIx (aD a) (.int 0) S = some (.int a.p) := rfl
      simp [a_runB, a_sSeq, a_sAsg, a_sRet, a_sRetN, a_sExp, a_sIf, a_sNil, a_sRaise, a_sFor, a_mBin, a_mUn, a_mVar, a_mC, opt, a_mNil, a_mCons, a_mOpN, asB, a_mTest, a_mAnd, a_mOr, a_mNot, a_mAndV, a_mOrV, a_mNotV, a_mIf, a_mChain, a_mTup, a_mFrz, a_mNew, a_lDis, a_mCall, a_mMeth, a_mIsi, a_mFld, tyD, isB, a_mPart, a_mNoPart, Rs.bind, Rs.then, RSt.seq, asgn, asSeq, asT, asL, asI, setAll, dAdd_int, dSub_int, dLt_int, dLe_int, dGt_int, dGe_int, dNeg_int, dEq_int, dNe_int, dEq_bl, dNe_bl, dIsN_non, dIsN_int, dIsN_str, dIsN_lst, dIsN_tup, sizeLine_v, wipeD, d1]
    · have d2 : mMeth [(9, m_Tariff_price)] [] (mVar 0) (mCons (mVar 4) (mNil)) [some (tarD b rs), some (.lst (as.map aD)), some (.int p), none, some (aD a), none] S = .ok (.int (price b rs a)) S := meth_obj rfl rfl rfl (ev_price S h hr (ha.a a ha1))
      show mTup _ [some (tarD b rs), some (.lst (as.map aD)), some (.int p), none, some (aD a), none] S = _
      rw [a_mTup, cons2_ok rfl d2]
      simp [Rs.bind, sizeLine_v, bRow]
  have e2 : mOpN oSum (mCons (mFrz (lComp (iSeq (mVar 3)) (.tp [4, 5]) (mYes) (mVar 5) [4, 5])) (mNil)) [some (tarD b rs), some (.lst (as.map aD)), some (.int p), some (.ref S.length), none, none] (S ++ [.lst ((mine p as).map (bRow b rs))]) = .ok (.int (tot b rs p as)) (S ++ [.lst ((mine p as).map (bRow b rs))]) :=
    sum_comp (mine p as) (bRow b rs) (price b rs) (iSeq_ref rfl get_last) rfl (stays_ref get_last) hz2 fun a _ => ⟨_, rfl, rfl⟩
  rw [a_runB, if_pos (show [tarD b rs, D.lst (as.map aD), D.int p].length = 3 from rfl)]
  show (match b_bill [some (tarD b rs), some (.lst (as.map aD)), some (.int p), none, none, none] S with
    | .nx _ S' => Rs.ok D.non S'
    | .rt d S' => .ok d S'
    | .exc x _ S' => .exc x S'
    | _ => .bad) = _
  unfold b_bill
  rw [a_sSeq, e1]
  simp only [RSt.seq]
  rw [a_sRet, a_mTup, cons2_ok (x := .ref S.length) rfl e2]
  simp [Rs.bind, Rs.then, sizeLine_v]
def pys (as : List Acct) : List Int := sortSet (as.map fun a => a.p)
theorem dedI_len : ∀ ns : List Int, (dedI ns).length ≤ ns.length
  | [] => Nat.le_refl _
  | n :: ns => by
    have := dedI_len ns
    unfold dedI
    split
    · rw [List.length_cons]; omega
    · rw [List.length_cons, List.length_cons]; omega
theorem pys_nodup (as : List Acct) : (pys as).Nodup := (sortI_perm _).nodup_iff.mpr (dedI_nodup _)
theorem pys_mem {as : List Acct} {q : Int} : q ∈ pys as ↔ q ∈ as.map fun a => a.p := by
  unfold pys sortSet
  rw [(sortI_perm _).mem_iff, dedI_mem]
theorem pys_len {as : List Acct} (ha : AsOk as) : (pys as).length ≤ 63 := by
  unfold pys sortSet
  rw [(sortI_perm _).length_eq]
  have := dedI_len (as.map fun a => a.p)
  have h2 := ha.l
  simp at this
  omega
theorem sortSet_ok {n : AM} {en : En} {S : Sto} {ns : List Int} (hn : n en S = .ok [.lst (ns.map .int)] S) (hz : ns.length ≤ 63) : lSortSet n en S = .ok ((sortSet ns).map .int) S := by
  unfold lSortSet
  rw [hn]
  show (match asInts (ns.map D.int) with
    | some ns => if (dedI ns).length < 64 ∧ ns.length < 4000 then Rs.ok ((sortSet ns).map D.int) S else .bad
    | none => .bad) = _
  rw [asInts_map]
  dsimp only
  rw [if_pos ⟨by have := dedI_len ns; omega, by omega⟩]
theorem dput_ok2 {md mk mv : EM} {en : En} {S S1 : Sto} {i : Nat} {kds : List (Key × D)} {k v : D} {kk : Key} (hv : mv en S = .ok v S1) (hd : md en S1 = .ok (.ref i) S1) (hk : mk en S1 = .ok k S1) (hi : S1[i]? = some (.dct kds)) (hkk : asKey k = some kk) (hz : kds.length < sizeLine) :
    sDput md mk mv en S = .nx en (S1.set i (.dct (putD kds kk v))) := by
  rw [a_sDput, hv]
  dsimp only [Rs.then]
  rw [hd]
  dsimp only
  rw [hk]
  dsimp only
  unfold dctPut
  dsimp only
  rw [hi]
  dsimp only
  rw [hkk]
  dsimp only
  rw [if_pos hz]
def pK (b : Bd) (rs : List (Str × List Int)) (as : List Acct) (ps : List Int) : List (Key × D) := ps.map fun p => (Sum.inl p, D.int (tot b rs p as))
theorem pK_new {ps : List Int} {q : Int} (h : q ∉ ps) : ∀ x ∈ pK b rs as ps, x.1 ≠ Sum.inl q := fun x hx e => by
  obtain ⟨r, hr, rfl⟩ := List.mem_map.mp hx
  cases e
  exact h hr
theorem ev_pays (h : BdOk b) (hr : POk rs) (ha : AsOk as) : ∃ J, m_pays [tarD b rs, .lst (as.map aD)] S = .ok (.ref S.length) (S ++ SO.dct (pK b rs as (pys as)) :: J) := by
  have hz : as.length ≤ sizeLine := by have := ha.l; rw [sizeLine_v]; omega
  have e1 : sAsg (.nm 2) (mDct) [some (tarD b rs), some (.lst (as.map aD)), none, none, none] S = .nx [some (tarD b rs), some (.lst (as.map aD)), some (.ref S.length), none, none] (S ++ [SO.dct (pK b rs as [])]) := rfl
  have e2 : mFrz (lSortSet (mCons (mFrz (lComp (iSeq (mVar 1)) (.nm 4) (mYes) (mBin dIx (mVar 4) (mC (.int 0))) [4])) (mNil))) [some (tarD b rs), some (.lst (as.map aD)), some (.ref S.length), none, none] (S ++ [SO.dct (pK b rs as [])]) = .ok (.lst ((pys as).map .int)) (S ++ [SO.dct (pK b rs as [])]) := by
    have c : lComp (iSeq (mVar 1)) (.nm 4) (mYes) (mBin dIx (mVar 4) (mC (.int 0))) [4] [some (tarD b rs), some (.lst (as.map aD)), some (.ref S.length), none, none] (S ++ [SO.dct (pK b rs as [])]) = .ok ((as.map fun a => a.p).map .int) (S ++ [SO.dct (pK b rs as [])]) := by
      rw [lComp_map as aD (fun a => D.int a.p) (iSeq_lst rfl) rfl rfl hz fun a _ => ⟨_, rfl, ?_⟩]
      · simp
      · rfl
    rw [a_mFrz, sortSet_ok (ns := as.map fun a => a.p) (cons1_ok (by rw [a_mFrz, c]; rfl)) (by simpa using ha.l)]
    rfl
  obtain ⟨en2, S2, e3, o3, done, J, rfl, rfl, hd⟩ := for_nx (g := .nm 3) (body := sDput (mVar 2) (mVar 3) (mBin dIx (mCall m_bill [] (mCons (mVar 0) (mCons (mVar 1) (mCons (mVar 3) (mNil))))) (mC (.int 1)))) (pys as) D.int (fun rest en S' => ∃ o3 done J, en = [some (tarD b rs), some (.lst (as.map aD)), some (.ref S.length), o3, none] ∧ S' = S ++ SO.dct (pK b rs as done) :: J ∧ done ++ rest = pys as)
    (iSeq_lst e2) rfl ⟨none, [], [], rfl, rfl, rfl⟩ (fun _ _ _ _ => rfl) (fun q rest en S' hI => by
      obtain ⟨o3, done, J, rfl, rfl, hd⟩ := hI
      have hq : q ∉ done := fun hm => by
        have nd := pys_nodup as
        rw [← hd, List.nodup_append] at nd
        exact nd.2.2 _ hm _ List.mem_cons_self rfl
      have hl : done.length ≤ 63 := by
        have : (done ++ q :: rest).length = (pys as).length := by rw [hd]
        have h2 := pys_len ha
        simp at this
        omega
      have eb := ev_bill (p := q) (S ++ SO.dct (pK b rs as done) :: J) h hr ha
      have f1 : mBin dIx (mCall m_bill [] (mCons (mVar 0) (mCons (mVar 1) (mCons (mVar 3) (mNil))))) (mC (.int 1)) [some (tarD b rs), some (.lst (as.map aD)), some (.ref S.length), some (.int q), none] (S ++ SO.dct (pK b rs as done) :: J) = .ok (.int (tot b rs q as)) ((S ++ SO.dct (pK b rs as done) :: J) ++ [SO.lst ((mine q as).map (bRow b rs))]) := by
        rw [a_mBin, call_ok (ds := [tarD b rs, .lst (as.map aD), .int q]) rfl eb]
        rfl
      refine ⟨[some (tarD b rs), some (.lst (as.map aD)), some (.ref S.length), some (.int q), none], rfl, _, S ++ SO.dct (pK b rs as (done ++ [q])) :: (J ++ [SO.lst ((mine q as).map (bRow b rs))]), ?_, some (.int q), done ++ [q], _, rfl, rfl, by rw [← hd]; simp⟩
      rw [dput_ok2 (i := S.length) (kds := pK b rs as done) (k := .int q) (kk := Sum.inl q) f1 rfl rfl (by simp) rfl (by rw [sizeLine_v]; simp [pK]; omega), putD_new (pK_new hq)]
      simp [pK, List.set_append])
  have hd : done = pys as := by simpa using hd
  subst hd
  refine ⟨J, trim_id ?_ rfl⟩
  rw [a_runB, if_pos (show [tarD b rs, D.lst (as.map aD)].length = 2 from rfl)]
  show (match b_pays [some (tarD b rs), some (.lst (as.map aD)), none, none, none] S with
    | .nx _ S' => Rs.ok D.non S'
    | .rt d S' => .ok d S'
    | .exc x _ S' => .exc x S'
    | _ => .bad) = _
  unfold b_pays
  rw [a_sSeq, e1]
  simp only [RSt.seq]
  rw [a_sSeq, e3]
  rfl
end
/-! ### the law's bill -/
theorem trimR_any {S A B : Sto} {d : D} : ∃ J, trimR (S ++ A) (.ok d (S ++ B)) = .ok d (S ++ J) := by
  unfold trimR
  dsimp only
  split
  · exact ⟨A, rfl⟩
  · exact ⟨B, rfl⟩
section
variable {b : Bd} {rs : List (Str × List Int)} {as : List Acct} {p : Int} (S : Sto)
/-- the accounts as they are handed in -/
def Acs (S : Sto) (as : List Acct) (d : D) : Prop := d = .lst (as.map aD) ∨ ∃ j, d = .ref j ∧ S[j]? = some (.lst (as.map aD))
theorem Acs.up {S : Sto} {as : List Acct} {d : D} (h : Acs S as d) (J : Sto) : Acs (S ++ J) as d := by
  rcases h with h | ⟨j, h, hj⟩
  · exact .inl h
  · exact .inr ⟨j, h, by rw [List.getElem?_append_left (List.getElem?_eq_some_iff.mp hj).1, hj]⟩
theorem Acs.asL {S : Sto} {as : List Acct} {d : D} (h : Acs S as d) : asSeq S d = some (as.map aD) := by
  rcases h with rfl | ⟨j, rfl, hj⟩
  · rfl
  · exact (show Mi.asL S (.ref j) = _ from asL_ref hj)
theorem Acs.seq {S : Sto} {as : List Acct} {d : D} (h : Acs S as d) : ∃ chk, (∀ (m : EM) (en : En) (S2 : Sto), Acs S2 as d → m en S2 = .ok d S2 → iSeq m en S2 = .ok (as.map aD, chk) S2) ∧ ∀ S2, Acs S2 as d → chk S2 = true := by
  rcases h with rfl | ⟨j, rfl, hj⟩
  · exact ⟨fun _ => true, fun m en S2 _ hm => iSeq_lst hm, fun _ _ => rfl⟩
  · have key : ∀ S2, Acs S2 as (.ref j) → S2[j]? = some (.lst (as.map aD)) := fun S2 h2 => by
      rcases h2 with h2 | ⟨k, h2, hk⟩
      · cases h2
      · cases h2; exact hk
    exact ⟨stays (.ref j) (as.map aD), fun m en S2 h2 hm => iSeq_ref hm (key S2 h2), fun S2 h2 => stays_ref (key S2 h2)⟩
theorem frz_bRow (a : Acct) (S : Sto) : frz 6 (bRow b rs a) S = some (bRow b rs a, S) := frz_tup fun d hd => by
  rcases List.mem_cons.mp hd with e | hd
  · rw [e]; rfl
  · rw [List.mem_singleton.mp hd]; rfl
theorem noRef_bRow (a : Acct) : noRef (bRow b rs a) = true := rfl
theorem ev_lbill {ad : D} (h : BdOk b) (hr : POk rs) (ha : AsOk as) (hd : Acs S as ad) : m__law_bill [tarD b rs, ad, .int p] S = .ok (.tup [.lst ((mine p as).map (bRow b rs)), .int (tot b rs p as)]) S := by
  refine gv_trim rfl ?_ (by unfold noRef noRefs noRefs noRefs noRef; rw [noRefs_map _ noRef_bRow]; rfl)
  obtain ⟨chk, hi, hc⟩ := hd.seq
  refine gv_nx (en1 := [some (tarD b rs), some ad, some (.int p), some (.ref S.length), none, none]) (S1 := S ++ [.lst []]) ?_ ?_
  · show sAsg _ _ [some (tarD b rs), some ad, some (.int p), none, none, none] S = _
    simp [a_runB, a_sSeq, a_sAsg, a_sRet, a_sRetN, a_sExp, a_sIf, a_sNil, a_sRaise, a_sFor, a_mBin, a_mUn, a_mVar, a_mC, opt, a_mNil, a_mCons, a_mOpN, asB, a_mTest, a_mAnd, a_mOr, a_mNot, a_mAndV, a_mOrV, a_mNotV, a_mIf, a_mChain, a_mTup, a_mFrz, a_mNew, a_lDis, a_mCall, a_mMeth, a_mIsi, a_mFld, tyD, isB, a_mPart, a_mNoPart, Rs.bind, Rs.then, RSt.seq, asgn, asSeq, asT, asL, asI, setAll, dAdd_int, dSub_int, dLt_int, dLe_int, dGt_int, dGe_int, dNeg_int, dEq_int, dNe_int, dEq_bl, dNe_bl, dIsN_non, dIsN_int, dIsN_str, dIsN_lst, dIsN_tup, sizeLine_v]
  refine gv_nx (en1 := [some (tarD b rs), some ad, some (.int p), some (.ref S.length), some (.int 0), none]) (S1 := S ++ [.lst []]) (by simp [a_runB, a_sSeq, a_sAsg, a_sRet, a_sRetN, a_sExp, a_sIf, a_sNil, a_sRaise, a_sFor, a_mBin, a_mUn, a_mVar, a_mC, opt, a_mNil, a_mCons, a_mOpN, asB, a_mTest, a_mAnd, a_mOr, a_mNot, a_mAndV, a_mOrV, a_mNotV, a_mIf, a_mChain, a_mTup, a_mFrz, a_mNew, a_lDis, a_mCall, a_mMeth, a_mIsi, a_mFld, tyD, isB, a_mPart, a_mNoPart, Rs.bind, Rs.then, RSt.seq, asgn, asSeq, asT, asL, asI, setAll, dAdd_int, dSub_int, dLt_int, dLe_int, dGt_int, dGe_int, dNeg_int, dEq_int, dNe_int, dEq_bl, dNe_bl, dIsN_non, dIsN_int, dIsN_str, dIsN_lst, dIsN_tup, sizeLine_v]) ?_
  refine gv_for as aD (fun rest en S' => ∃ done o5, en = [some (tarD b rs), some ad, some (.int p), some (.ref S.length), some (.int (tot b rs p done)), o5] ∧ S' = S ++ [.lst ((mine p done).map (bRow b rs))] ∧ done ++ rest = as) (hi _ _ _ (hd.up _) rfl) rfl ⟨[], none, rfl, rfl, rfl⟩ (fun xs en S' hI => by
    obtain ⟨done, o5, _, rfl, _⟩ := hI
    exact hc _ (hd.up _)) ?_ ?_
  · rintro a rest en S' ⟨done, o5, rfl, rfl, hdn⟩
    have hm : a ∈ as := by rw [← hdn]; simp
    have hz : done.length ≤ 63 := by
      have : (done ++ a :: rest).length = as.length := by rw [hdn]
      have := ha.l
      simp at *
      omega
    have d1 : ∀ S' : Sto, dIx (aD a) (.int 0) S' = some (.int a.p) := fun _ => rfl
    refine ⟨[some (tarD b rs), some ad, some (.int p), some (.ref S.length), some (.int (tot b rs p done)), some (aD a)], rfl, .inl ⟨[some (tarD b rs), some ad, some (.int p), some (.ref S.length), some (.int (tot b rs p (done ++ [a]))), some (aD a)], S ++ [.lst ((mine p (done ++ [a])).map (bRow b rs))], ?_, done ++ [a], _, rfl, rfl, by rw [← hdn]; simp⟩⟩
    by_cases hp : a.p = p
    · have hmine : mine p (done ++ [a]) = mine p done ++ [a] := by simp [mine, hp]
      have htot : tot b rs p (done ++ [a]) = tot b rs p done + price b rs a := by unfold tot; rw [hmine]; simp
      have hz2 : (mine p done).length ≤ 63 := Nat.le_trans (List.length_filter_le _ _) hz
      have f0 : mMeth [(9, m_Tariff_price)] [] (mVar 0) (mCons (mVar 5) (mNil)) [some (tarD b rs), some ad, some (.int p), some (.ref S.length), some (.int (tot b rs p done)), some (aD a)] (S ++ [.lst ((mine p done).map (bRow b rs))]) = .ok (.int (price b rs a)) (S ++ [.lst ((mine p done).map (bRow b rs))]) := meth_obj rfl rfl rfl (ev_price _ h hr (ha.a a hm))
      have f1 : mAppend (mVar 3) (mCons (mTup (mCons (mVar 5) (mCons (mMeth [(9, m_Tariff_price)] [] (mVar 0) (mCons (mVar 5) (mNil))) (mNil)))) (mNil)) [some (tarD b rs), some ad, some (.int p), some (.ref S.length), some (.int (tot b rs p done)), some (aD a)] (S ++ [.lst ((mine p done).map (bRow b rs))]) = .ok .non (S ++ [.lst ((mine p (done ++ [a])).map (bRow b rs))]) := by
        rw [append_ok (i := S.length) (ds := (mine p done).map (bRow b rs)) (y := bRow b rs a) rfl get_last (cons1_ok (by rw [a_mTup, cons2_ok rfl f0]; rfl)) (by rw [sizeLine_v]; simp; omega), set_last, hmine]
        simp
      have d2 : dIx (.ref S.length) (.int (-1)) (S ++ [.lst ((mine p (done ++ [a])).map (bRow b rs))]) = some (bRow b rs a) := by
        refine dIx_ref get_last ?_
        rw [hmine, List.map_append]
        unfold atI ixN
        rw [if_neg (by decide), if_pos (by simp; omega)]
        have e : ((-1 : Int) + ((List.map (bRow b rs) (mine p done) ++ List.map (bRow b rs) [a]).length : Nat)).toNat = (List.map (bRow b rs) (mine p done)).length := by simp; omega
        show (List.map (bRow b rs) (mine p done) ++ List.map (bRow b rs) [a])[_]? = _
        rw [e]
        simp
      have d3 : ∀ S' : Sto, dIx (bRow b rs a) (.int 1) S' = some (.int (price b rs a)) := fun _ => rfl
      simp [↓f1, a_runB, a_sSeq, a_sAsg, a_sRet, a_sRetN, a_sExp, a_sIf, a_sNil, a_sRaise, a_sFor, a_mBin, a_mUn, a_mVar, a_mC, opt, a_mNil, a_mCons, a_mOpN, asB, a_mTest, a_mAnd, a_mOr, a_mNot, a_mAndV, a_mOrV, a_mNotV, a_mIf, a_mChain, a_mTup, a_mFrz, a_mNew, a_lDis, a_mCall, a_mMeth, a_mIsi, a_mFld, tyD, isB, a_mPart, a_mNoPart, Rs.bind, Rs.then, RSt.seq, asgn, asSeq, asT, asL, asI, setAll, dAdd_int, dSub_int, dLt_int, dLe_int, dGt_int, dGe_int, dNeg_int, dEq_int, dNe_int, dEq_bl, dNe_bl, dIsN_non, dIsN_int, dIsN_str, dIsN_lst, dIsN_tup, sizeLine_v, d1, hp, d2, d3, htot]
    · have hmine : mine p (done ++ [a]) = mine p done := by simp [mine, hp]
      have htot : tot b rs p (done ++ [a]) = tot b rs p done := by unfold tot; rw [hmine]
      simp [a_runB, a_sSeq, a_sAsg, a_sRet, a_sRetN, a_sExp, a_sIf, a_sNil, a_sRaise, a_sFor, a_mBin, a_mUn, a_mVar, a_mC, opt, a_mNil, a_mCons, a_mOpN, asB, a_mTest, a_mAnd, a_mOr, a_mNot, a_mAndV, a_mOrV, a_mNotV, a_mIf, a_mChain, a_mTup, a_mFrz, a_mNew, a_lDis, a_mCall, a_mMeth, a_mIsi, a_mFld, tyD, isB, a_mPart, a_mNoPart, Rs.bind, Rs.then, RSt.seq, asgn, asSeq, asT, asL, asI, setAll, dAdd_int, dSub_int, dLt_int, dLe_int, dGt_int, dGe_int, dNeg_int, dEq_int, dNe_int, dEq_bl, dNe_bl, dIsN_non, dIsN_int, dIsN_str, dIsN_lst, dIsN_tup, sizeLine_v, d1, hp, hmine, htot]
  · rintro en S' ⟨done, o5, rfl, rfl, hdn⟩
    have hdn : done = as := by simpa using hdn
    subst hdn
    obtain ⟨J, hJ⟩ := trimR_any (S := S) (A := [.lst ((mine p done).map (bRow b rs))]) (B := [.dead]) (d := .tup [.lst ((mine p done).map (bRow b rs)), .int (tot b rs p done)])
    refine gv_ret (J := J) ?_
    rw [a_mTrim, a_mFreeze, a_mTup, cons2_ok (x := .ref S.length) (y := .int (tot b rs p done)) rfl rfl]
    have hf : frz 8 (.tup [.ref S.length, .int (tot b rs p done)]) (S ++ [.lst ((mine p done).map (bRow b rs))]) = some (.tup [.lst ((mine p done).map (bRow b rs)), .int (tot b rs p done)], S ++ [.dead]) := by
      have g : frz 7 (.ref S.length) (S ++ [.lst ((mine p done).map (bRow b rs))]) = some (.lst ((mine p done).map (bRow b rs)), S ++ [.dead]) := by
        rw [frz_ref (n := 6) (ds := (mine p done).map (bRow b rs)) get_last, set_last]
        intro d hd
        obtain ⟨r, _, rfl⟩ := List.mem_map.mp hd
        exact frz_bRow r _
      show (match frzAll (frz 7) [.ref S.length, .int (tot b rs p done)] (S ++ [.lst ((mine p done).map (bRow b rs))]) with
        | some (ds', S') => some (D.tup ds', S')
        | none => none) = _
      unfold frzAll
      rw [g]
      rfl
    simp only [Rs.bind, List.length_cons, List.length_nil]
    rw [if_pos (by rw [sizeLine_v]; decide)]
    dsimp only
    rw [hf]
    exact hJ
end

/-! ### alike -/
theorem alike_int (f : Nat) (a : Int) (S : Sto) : m__law_alike (f + 1) [.int a, .int a] S = .ok (.bl true) S := by
  refine gv_trim rfl ?_ rfl
  refine gv_nx (en1 := [some (.int a), some (.int a), none, none]) (S1 := S) (by simp [a_runB, a_sSeq, a_sAsg, a_sRet, a_sRetN, a_sExp, a_sIf, a_sNil, a_sRaise, a_sFor, a_mBin, a_mUn, a_mVar, a_mC, opt, a_mNil, a_mCons, a_mOpN, asB, a_mTest, a_mAnd, a_mOr, a_mNot, a_mAndV, a_mOrV, a_mNotV, a_mIf, a_mChain, a_mTup, a_mFrz, a_mNew, a_lDis, a_mCall, a_mMeth, a_mIsi, a_mFld, tyD, isB, a_mPart, a_mNoPart, Rs.bind, Rs.then, RSt.seq, asgn, asSeq, asT, asL, asI, setAll, dAdd_int, dSub_int, dLt_int, dLe_int, dGt_int, dGe_int, dNeg_int, dEq_int, dNe_int, dEq_bl, dNe_bl, dIsN_non, dIsN_int, dIsN_str, dIsN_lst, dIsN_tup, sizeLine_v]) ?_
  refine gv_nx (en1 := [some (.int a), some (.int a), none, none]) (S1 := S) (by simp [a_runB, a_sSeq, a_sAsg, a_sRet, a_sRetN, a_sExp, a_sIf, a_sNil, a_sRaise, a_sFor, a_mBin, a_mUn, a_mVar, a_mC, opt, a_mNil, a_mCons, a_mOpN, asB, a_mTest, a_mAnd, a_mOr, a_mNot, a_mAndV, a_mOrV, a_mNotV, a_mIf, a_mChain, a_mTup, a_mFrz, a_mNew, a_lDis, a_mCall, a_mMeth, a_mIsi, a_mFld, tyD, isB, a_mPart, a_mNoPart, Rs.bind, Rs.then, RSt.seq, asgn, asSeq, asT, asL, asI, setAll, dAdd_int, dSub_int, dLt_int, dLe_int, dGt_int, dGe_int, dNeg_int, dEq_int, dNe_int, dEq_bl, dNe_bl, dIsN_non, dIsN_int, dIsN_str, dIsN_lst, dIsN_tup, sizeLine_v]) (gv_ret (J := []) (by simp [a_runB, a_sSeq, a_sAsg, a_sRet, a_sRetN, a_sExp, a_sIf, a_sNil, a_sRaise, a_sFor, a_mBin, a_mUn, a_mVar, a_mC, opt, a_mNil, a_mCons, a_mOpN, asB, a_mTest, a_mAnd, a_mOr, a_mNot, a_mAndV, a_mOrV, a_mNotV, a_mIf, a_mChain, a_mTup, a_mFrz, a_mNew, a_lDis, a_mCall, a_mMeth, a_mIsi, a_mFld, tyD, isB, a_mPart, a_mNoPart, Rs.bind, Rs.then, RSt.seq, asgn, asSeq, asT, asL, asI, setAll, dAdd_int, dSub_int, dLt_int, dLe_int, dGt_int, dGe_int, dNeg_int, dEq_int, dNe_int, dEq_bl, dNe_bl, dIsN_non, dIsN_int, dIsN_str, dIsN_lst, dIsN_tup, sizeLine_v]))
theorem dEq_self {a b : D} {p : PyData} {S : Sto} (ha : pdS S a = some p) (hb : pdS S b = some p) (h : SeqAt.shaped p = true) : dEq a b S = some (.bl true) := by
  unfold dEq
  rw [ha, hb]
  dsimp only
  rw [if_pos ⟨h, h⟩, SeqAt.eqv_refl p (SeqAt.canLay_of_shaped h)]
theorem dNe_self {a b : D} {p : PyData} {S : Sto} (ha : pdS S a = some p) (hb : pdS S b = some p) (h : SeqAt.shaped p = true) : dNe a b S = some (.bl false) := by
  unfold dNe
  rw [ha, hb]
  dsimp only
  rw [if_pos ⟨h, h⟩, SeqAt.eqv_refl p (SeqAt.canLay_of_shaped h)]
  rfl
theorem str_ok {x : Str} (h : FOk x) : SeqAt.shaped (.str x) = true := by
  unfold SeqAt.shaped PyData.canLay0 PyData.depth PyData.strOk
  have : x.cps.all (fun c => decide (c < 0x110000)) = true := by
    rw [Array.all_eq_true']
    intro c hc
    have := h.2.2 c (by simpa using hc)
    simp
    omega
  simp [this]
theorem alike_str (f : Nat) {a : Str} (S : Sto) (h : FOk a) : m__law_alike (f + 1) [.str a, .str a] S = .ok (.bl true) S := by
  refine gv_trim rfl ?_ rfl
  have e := dEq_self (a := .str a) (b := .str a) (p := .str a) (S := S) rfl rfl (str_ok h)
  refine gv_nx (en1 := [some (.str a), some (.str a), none, none]) (S1 := S) (by simp [a_runB, a_sSeq, a_sAsg, a_sRet, a_sRetN, a_sExp, a_sIf, a_sNil, a_sRaise, a_sFor, a_mBin, a_mUn, a_mVar, a_mC, opt, a_mNil, a_mCons, a_mOpN, asB, a_mTest, a_mAnd, a_mOr, a_mNot, a_mAndV, a_mOrV, a_mNotV, a_mIf, a_mChain, a_mTup, a_mFrz, a_mNew, a_lDis, a_mCall, a_mMeth, a_mIsi, a_mFld, tyD, isB, a_mPart, a_mNoPart, Rs.bind, Rs.then, RSt.seq, asgn, asSeq, asT, asL, asI, setAll, dAdd_int, dSub_int, dLt_int, dLe_int, dGt_int, dGe_int, dNeg_int, dEq_int, dNe_int, dEq_bl, dNe_bl, dIsN_non, dIsN_int, dIsN_str, dIsN_lst, dIsN_tup, sizeLine_v]) ?_
  refine gv_nx (en1 := [some (.str a), some (.str a), none, none]) (S1 := S) (by simp [a_runB, a_sSeq, a_sAsg, a_sRet, a_sRetN, a_sExp, a_sIf, a_sNil, a_sRaise, a_sFor, a_mBin, a_mUn, a_mVar, a_mC, opt, a_mNil, a_mCons, a_mOpN, asB, a_mTest, a_mAnd, a_mOr, a_mNot, a_mAndV, a_mOrV, a_mNotV, a_mIf, a_mChain, a_mTup, a_mFrz, a_mNew, a_lDis, a_mCall, a_mMeth, a_mIsi, a_mFld, tyD, isB, a_mPart, a_mNoPart, Rs.bind, Rs.then, RSt.seq, asgn, asSeq, asT, asL, asI, setAll, dAdd_int, dSub_int, dLt_int, dLe_int, dGt_int, dGe_int, dNeg_int, dEq_int, dNe_int, dEq_bl, dNe_bl, dIsN_non, dIsN_int, dIsN_str, dIsN_lst, dIsN_tup, sizeLine_v]) (gv_ret (J := []) (by simp [a_runB, a_sSeq, a_sAsg, a_sRet, a_sRetN, a_sExp, a_sIf, a_sNil, a_sRaise, a_sFor, a_mBin, a_mUn, a_mVar, a_mC, opt, a_mNil, a_mCons, a_mOpN, asB, a_mTest, a_mAnd, a_mOr, a_mNot, a_mAndV, a_mOrV, a_mNotV, a_mIf, a_mChain, a_mTup, a_mFrz, a_mNew, a_lDis, a_mCall, a_mMeth, a_mIsi, a_mFld, tyD, isB, a_mPart, a_mNoPart, Rs.bind, Rs.then, RSt.seq, asgn, asSeq, asT, asL, asI, setAll, dAdd_int, dSub_int, dLt_int, dLe_int, dGt_int, dGe_int, dNeg_int, dEq_int, dNe_int, dEq_bl, dNe_bl, dIsN_non, dIsN_int, dIsN_str, dIsN_lst, dIsN_tup, sizeLine_v, e]))
/-- two rows of things, that are alike one by one -/
theorem alike_seq (f : Nat) {α : Type} (xs : List α) (u v : α → D) {x y : D} (S : Sto) (hz : xs.length ≤ 1000) (h : ∀ a ∈ xs, m__law_alike f [u a, v a] S = .ok (.bl true) S)
    (hxy : (x = .tup (xs.map u) ∧ y = .tup (xs.map v)) ∨ (asL S x = some (xs.map u) ∧ tyD S x = some .lst ∧ asT x = none ∧ y = .lst (xs.map v) ∧ stays x (xs.map u) S = true)) : m__law_alike (f + 1) [x, y] S = .ok (.bl true) S := by
  refine gv_trim rfl ?_ rfl
  have hz2 : xs.length ≤ sizeLine := by rw [sizeLine_v]; omega
  have key : ∀ (mi : IM), (∃ chk, mi [some x, some y, none, none] S = .ok (zipD (xs.map u) (xs.map v), chk) S ∧ chk S = true) → mOpN oAll (mCons (mFrz (lComp mi (.tp [2, 3]) (mYes) (mCall (m__law_alike f) [] (mCons (mVar 2) (mCons (mVar 3) (mNil)))) [2, 3])) (mNil)) [some x, some y, none, none] S = .ok (.bl true) S := fun mi hmi => by
    obtain ⟨chk, h1, h2⟩ := hmi
    rw [all_comp xs (fun a => D.tup [u a, v a]) (fun _ => true) h1 (by rw [zipD_map]; have : ∀ l : List α, (l.zip l).map (fun p => D.tup [u p.1, v p.2]) = l.map fun a => D.tup [u a, v a] := fun l => by { induction l with | nil => rfl | cons c l ih => simp [ih] }; exact this xs) h2 hz2 fun a ha => ⟨_, rfl, call_ok (ds := [u a, v a]) rfl (h a ha)⟩, all_true fun _ _ => rfl]
  rcases hxy with ⟨rfl, rfl⟩ | ⟨h1, h2, h3, rfl, h4⟩
  · have k := key (iZipD (mCons (mVar 0) (mCons (mVar 1) (mNil)))) ⟨_, iZip_tup rfl, rfl⟩
    refine ⟨[], ?_⟩
    show (sSeq _ _) [some (.tup (xs.map u)), some (.tup (xs.map v)), none, none] S = _
    have c : sIf (mOr (mTest (mBin dNe (mIsi [.tup] (mVar 0)) (mIsi [.tup] (mVar 1)))) (mTest (mBin dNe (mIsi [.lst] (mVar 0)) (mIsi [.lst] (mVar 1))))) (sRet (mC (.bl false))) (sNil) [some (.tup (xs.map u)), some (.tup (xs.map v)), none, none] S = .nx [some (.tup (xs.map u)), some (.tup (xs.map v)), none, none] S := by simp [a_runB, a_sSeq, a_sAsg, a_sRet, a_sRetN, a_sExp, a_sIf, a_sNil, a_sRaise, a_sFor, a_mBin, a_mUn, a_mVar, a_mC, opt, a_mNil, a_mCons, a_mOpN, asB, a_mTest, a_mAnd, a_mOr, a_mNot, a_mAndV, a_mOrV, a_mNotV, a_mIf, a_mChain, a_mTup, a_mFrz, a_mNew, a_lDis, a_mCall, a_mMeth, a_mIsi, a_mFld, tyD, isB, a_mPart, a_mNoPart, Rs.bind, Rs.then, RSt.seq, asgn, asSeq, asT, asL, asI, setAll, dAdd_int, dSub_int, dLt_int, dLe_int, dGt_int, dGe_int, dNeg_int, dEq_int, dNe_int, dEq_bl, dNe_bl, dIsN_non, dIsN_int, dIsN_str, dIsN_lst, dIsN_tup, sizeLine_v]
    have t : mTest (mIsi [.tup, .lst] (mVar 0)) [some (.tup (xs.map u)), some (.tup (xs.map v)), none, none] S = .ok true S := by simp [a_runB, a_sSeq, a_sAsg, a_sRet, a_sRetN, a_sExp, a_sIf, a_sNil, a_sRaise, a_sFor, a_mBin, a_mUn, a_mVar, a_mC, opt, a_mNil, a_mCons, a_mOpN, asB, a_mTest, a_mAnd, a_mOr, a_mNot, a_mAndV, a_mOrV, a_mNotV, a_mIf, a_mChain, a_mTup, a_mFrz, a_mNew, a_lDis, a_mCall, a_mMeth, a_mIsi, a_mFld, tyD, isB, a_mPart, a_mNoPart, Rs.bind, Rs.then, RSt.seq, asgn, asSeq, asT, asL, asI, setAll, dAdd_int, dSub_int, dLt_int, dLe_int, dGt_int, dGe_int, dNeg_int, dEq_int, dNe_int, dEq_bl, dNe_bl, dIsN_non, dIsN_int, dIsN_str, dIsN_lst, dIsN_tup, sizeLine_v]
    have l : mBin dEq (mOpN oLen (mCons (mVar 0) (mNil))) (mOpN oLen (mCons (mVar 1) (mNil))) [some (.tup (xs.map u)), some (.tup (xs.map v)), none, none] S = .ok (.bl true) S := by simp [a_runB, a_sSeq, a_sAsg, a_sRet, a_sRetN, a_sExp, a_sIf, a_sNil, a_sRaise, a_sFor, a_mBin, a_mUn, a_mVar, a_mC, opt, a_mNil, a_mCons, a_mOpN, asB, a_mTest, a_mAnd, a_mOr, a_mNot, a_mAndV, a_mOrV, a_mNotV, a_mIf, a_mChain, a_mTup, a_mFrz, a_mNew, a_lDis, a_mCall, a_mMeth, a_mIsi, a_mFld, tyD, isB, a_mPart, a_mNoPart, Rs.bind, Rs.then, RSt.seq, asgn, asSeq, asT, asL, asI, setAll, dAdd_int, dSub_int, dLt_int, dLe_int, dGt_int, dGe_int, dNeg_int, dEq_int, dNe_int, dEq_bl, dNe_bl, dIsN_non, dIsN_int, dIsN_str, dIsN_lst, dIsN_tup, sizeLine_v, oLen]
    rw [a_sSeq, a_sIf, t]
    simp only [Rs.then, if_true]
    rw [a_sSeq, c]
    simp only [RSt.seq]
    rw [a_sRet, a_mAndV, l]
    simp only [Rs.bind, if_true]
    rw [k]
    simp [Rs.then, RSt.seq]
  · have z : iZipD (mCons (mVar 0) (mCons (mVar 1) (mNil))) [some x, some (.lst (xs.map v)), none, none] S = .ok (zipD (xs.map u) (xs.map v), fun S => stays x (xs.map u) S && stays (.lst (xs.map v)) (xs.map v) S) S := by
      unfold iZipD
      rw [cons2_ok rfl rfl]
      show (match asT x, asT (.lst (xs.map v)) with
        | some a, some b => Rs.ok (zipD a b, fun (_ : Sto) => true) S
        | _, _ => match asL S x, asL S (.lst (xs.map v)) with
          | some a, some b => Rs.ok (zipD a b, fun (S : Sto) => stays x a S && stays (.lst (xs.map v)) b S) S
          | _, _ => .bad) = _
      rw [h3, h1]
      rfl
    have k := key (iZipD (mCons (mVar 0) (mCons (mVar 1) (mNil)))) ⟨_, z, by rw [h4]; rfl⟩
    refine ⟨[], ?_⟩
    show (sSeq _ _) [some x, some (.lst (xs.map v)), none, none] S = _
    have c : sIf (mOr (mTest (mBin dNe (mIsi [.tup] (mVar 0)) (mIsi [.tup] (mVar 1)))) (mTest (mBin dNe (mIsi [.lst] (mVar 0)) (mIsi [.lst] (mVar 1))))) (sRet (mC (.bl false))) (sNil) [some x, some (.lst (xs.map v)), none, none] S = .nx [some x, some (.lst (xs.map v)), none, none] S := by
      have i1 : ∀ Ts, mIsi Ts (mVar 0) [some x, some (.lst (xs.map v)), none, none] S = .ok (.bl (Ts.any (isB .lst))) S := fun Ts => by
        rw [a_mIsi]
        show (match tyD S x with
          | some t => Rs.ok (D.bl (Ts.any (isB t))) S
          | none => .bad) = _
        rw [h2]
      simp [↓i1, a_runB, a_sSeq, a_sAsg, a_sRet, a_sRetN, a_sExp, a_sIf, a_sNil, a_sRaise, a_sFor, a_mBin, a_mUn, a_mVar, a_mC, opt, a_mNil, a_mCons, a_mOpN, asB, a_mTest, a_mAnd, a_mOr, a_mNot, a_mAndV, a_mOrV, a_mNotV, a_mIf, a_mChain, a_mTup, a_mFrz, a_mNew, a_lDis, a_mCall, a_mMeth, a_mIsi, a_mFld, tyD, isB, a_mPart, a_mNoPart, Rs.bind, Rs.then, RSt.seq, asgn, asSeq, asT, asL, asI, setAll, dAdd_int, dSub_int, dLt_int, dLe_int, dGt_int, dGe_int, dNeg_int, dEq_int, dNe_int, dEq_bl, dNe_bl, dIsN_non, dIsN_int, dIsN_str, dIsN_lst, dIsN_tup, sizeLine_v]
    have t : mTest (mIsi [.tup, .lst] (mVar 0)) [some x, some (.lst (xs.map v)), none, none] S = .ok true S := by
      rw [a_mTest, a_mIsi]
      show ((match tyD S x with
          | some t => Rs.ok (D.bl ([BT.tup, BT.lst].any (isB t))) S
          | none => .bad).bind asB) = _
      rw [h2]
      rfl
    have l : mBin dEq (mOpN oLen (mCons (mVar 0) (mNil))) (mOpN oLen (mCons (mVar 1) (mNil))) [some x, some (.lst (xs.map v)), none, none] S = .ok (.bl true) S := by
      have o1 : oLen [x] S = some (.int (xs.length : Nat)) := by
        unfold oLen asSeq
        dsimp only
        rw [h3]
        dsimp only
        rw [h1]
        simp
      have o2 : oLen [.lst (xs.map v)] S = some (.int (xs.length : Nat)) := by simp [oLen, asSeq, asT, asL]
      simp [a_mBin, a_mOpN, a_mCons, a_mNil, a_mVar, Rs.bind, opt, o1, o2, dEq_int]
    rw [a_sSeq, a_sIf, t]
    simp only [Rs.then, if_true]
    rw [a_sSeq, c]
    simp only [RSt.seq]
    rw [a_sRet, a_mAndV, l]
    simp only [Rs.bind, if_true]
    rw [k]
    simp [Rs.then, RSt.seq]
theorem alike_acct {a : Acct} (f : Nat) (S : Sto) (h : AOk a) : m__law_alike (f + 2) [aD a, aD a] S = .ok (.bl true) S :=
  alike_seq (f + 1) [D.int a.p, .str a.n, .int a.b, .int a.e] id id S (by simp) (fun d hd => by
    simp only [List.mem_cons, List.not_mem_nil, or_false] at hd
    rcases hd with rfl | rfl | rfl | rfl
    · exact alike_int f _ S
    · exact alike_str f S h.n
    · exact alike_int f _ S
    · exact alike_int f _ S) (.inl ⟨by simp [aD], by simp [aD]⟩)
theorem alike_row {b : Bd} {rs : List (Str × List Int)} {a : Acct} (f : Nat) (S : Sto) (h : AOk a) : m__law_alike (f + 3) [bRow b rs a, bRow b rs a] S = .ok (.bl true) S :=
  alike_seq (f + 2) [aD a, .int (price b rs a)] id id S (by simp) (fun d hd => by
    simp only [List.mem_cons, List.not_mem_nil, or_false] at hd
    rcases hd with rfl | rfl
    · exact alike_acct f S h
    · exact alike_int (f + 1) _ S) (.inl ⟨by simp [bRow], by simp [bRow]⟩)
theorem tyD_ref {S : Sto} {i : Nat} {ds : List D} (h : S[i]? = some (.lst ds)) : tyD S (.ref i) = some .lst := by
  unfold tyD
  dsimp only
  rw [h]
theorem alike_bill {b : Bd} {rs : List (Str × List Int)} {l : List Acct} {t : Int} {i : Nat} (S : Sto) (hl : l.length ≤ 63) (h : ∀ a ∈ l, AOk a) (hi : S[i]? = some (.lst (l.map (bRow b rs)))) : m__law_alike 6 [.tup [.ref i, .int t], .tup [.lst (l.map (bRow b rs)), .int t]] S = .ok (.bl true) S := by
  have e := alike_seq 5 [((.ref i : D), (.lst (l.map (bRow b rs)) : D)), (.int t, .int t)] Prod.fst Prod.snd (x := .tup [.ref i, .int t]) (y := .tup [.lst (l.map (bRow b rs)), .int t]) S (by simp) (fun d hd => by
    simp only [List.mem_cons, List.not_mem_nil, or_false] at hd
    rcases hd with rfl | rfl
    · exact alike_seq 4 l (bRow b rs) (bRow b rs) S (by omega) (fun a ha => alike_row 1 S (h a ha)) (.inr ⟨asL_ref hi, tyD_ref hi, rfl, rfl, stays_ref hi⟩)
    · exact alike_int 4 _ S) (.inl ⟨rfl, rfl⟩)
  exact e
/-! ### all is right -/
def aP (a : Acct) : PyData := .tuple [.int a.p, .str a.n, .int a.b, .int a.e]
theorem pds_acc : ∀ as : List Acct, pds (as.map aD) = some (as.map aP)
  | [] => rfl
  | a :: as => by
    unfold List.map pds
    rw [pds_acc as]
    rfl
theorem pds_ints : ∀ xs : List Int, pds (xs.map D.int) = some (xs.map PyData.int)
  | [] => rfl
  | x :: xs => by
    unfold List.map pds
    rw [pds_ints xs]
    rfl
theorem shaped_ints (xs : List Int) : SeqAt.shaped (.list (xs.map PyData.int)) = true := by
  have h1 : PyData.canLayAll0 (xs.map PyData.int) = true := by
    induction xs with
    | nil => rfl
    | cons x xs ih => unfold List.map PyData.canLayAll0; rw [ih]; rfl
  have h2 : PyData.depthAll (xs.map PyData.int) = 0 := by
    induction xs with
    | nil => rfl
    | cons x xs ih =>
      unfold List.map PyData.depthAll
      rw [ih (by unfold List.map PyData.canLayAll0 at h1; exact (Bool.and_eq_true .. ▸ h1).2)]
      rfl
  unfold SeqAt.shaped PyData.canLay0 PyData.depth
  rw [h1, h2]
  rfl
theorem shaped_acc {as : List Acct} (h : ∀ a ∈ as, AOk a) : SeqAt.shaped (.list (as.map aP)) = true := by
  have h1 : PyData.canLayAll0 (as.map aP) = true ∧ PyData.depthAll (as.map aP) ≤ 1 := by
    induction as with
    | nil => exact ⟨rfl, by decide⟩
    | cons a as ih =>
      obtain ⟨i1, i2⟩ := ih fun x hx => h x (List.mem_cons_of_mem _ hx)
      have hs := str_ok (h a List.mem_cons_self).n
      have hs2 : PyData.strOk a.n = true := SeqAt.canLay_of_shaped hs
      refine ⟨?_, ?_⟩
      · unfold List.map PyData.canLayAll0
        rw [i1]
        simp [aP, PyData.canLay0, PyData.canLayAll0, hs2]
      · unfold List.map PyData.depthAll
        have : PyData.depth (aP a) = 1 := rfl
        rw [this]
        omega
  unfold SeqAt.shaped PyData.canLay0 PyData.depth
  rw [h1.1]
  have := h1.2
  simp
  omega
theorem pdS_ints (xs : List Int) (S : Sto) : pdS S (.lst (xs.map .int)) = some (.list (xs.map PyData.int)) := by
  show (match pds (xs.map D.int) with
    | some ys => some (PyData.list ys)
    | none => none) = _
  rw [pds_ints]
theorem pdS_acc {as : List Acct} {d : D} {S : Sto} (h : Acs S as d) : pdS S d = some (.list (as.map aP)) := by
  rcases h with rfl | ⟨j, rfl, hj⟩
  · show (match pds (as.map aD) with
      | some ys => some (PyData.list ys)
      | none => none) = _
    rw [pds_acc]
  · unfold pdS
    dsimp only
    rw [asL_ref hj]
    dsimp only
    rw [pds_acc]
section
variable {b : Bd} {rs : List (Str × List Int)} {as : List Acct} (S : Sto)
theorem pK_keys (ps : List Int) : ((pK b rs as ps).map fun q => kD q.1) = ps.map D.int := by
  unfold pK
  rw [List.map_map]
  rfl
theorem lkeys {n : AM} {en : En} {S : Sto} {i : Nat} {ps : List Int} (hn : n en S = .ok [.ref i] S) (hi : S[i]? = some (.dct (pK b rs as ps))) : lList n en S = .ok (ps.map .int) S := by
  unfold lList
  rw [hn]
  have e1 : asSeq S (.ref i) = none := by
    unfold asSeq asT asL
    dsimp only
    rw [hi]
  show (match asSeq S (.ref i) with
    | some ds => Rs.ok ds S
    | none => match asK S (.ref i) with
      | some kds => Rs.ok (kds.map fun (p : Key × D) => kD p.1) S
      | none => .bad) = _
  rw [e1, asK_ref hi]
  dsimp only
  rw [pK_keys]
theorem valD_pK {ps : List Int} {q : Int} (h : q ∈ ps) : valD (pK b rs as ps) (Sum.inl q) = some (.int (tot b rs q as)) := by
  induction ps with
  | nil => cases h
  | cons x ps ih =>
    unfold valD pK
    rw [List.map_cons, List.find?_cons]
    by_cases e : x = q
    · simp [e]
    · have e2 : ¬ (Sum.inl x : Key) = Sum.inl q := fun z => e (by cases z; rfl)
      simp only [e2, decide_false]
      rcases List.mem_cons.mp h with z | z
      · exact absurd z.symm e
      · exact ih z
theorem tot_none {q : Int} (h : q ∉ as.map fun a => a.p) : tot b rs q as = 0 := by
  have : mine q as = [] := List.filter_eq_nil_iff.mpr fun a ha => by
    simp only [decide_eq_true_eq]
    exact fun e => h (List.mem_map.mpr ⟨a, ha, e⟩)
  unfold tot
  rw [this]
  rfl
theorem tyD_dct {S : Sto} {i : Nat} {k : List (Key × D)} (h : S[i]? = some (.dct k)) : tyD S (.ref i) = some .dct := by
  unfold tyD
  dsimp only
  rw [h]
theorem ev_right {ad : D} (h : BdOk b) (hr : POk rs) (ha : AsOk as) (hd : Acs S as ad) : m__law_right [tarD b rs, ad] S = .ok (.bl true) S := by
  refine gv_trim rfl ?_ rfl
  have hz : as.length ≤ sizeLine := by have := ha.l; rw [sizeLine_v]; omega
  obtain ⟨chk, hi, hc⟩ := hd.seq
  obtain ⟨J, ep⟩ := ev_pays (b := b) (rs := rs) (as := as) S h hr ha
  refine gv_nx (en1 := [some (tarD b rs), some ad, some (.lst (as.map aD)), none, none, none, none, none, none]) (S1 := S) ?_ ?_
  · show sAsg _ _ [some (tarD b rs), some ad, none, none, none, none, none, none, none] S = _
    have : lList (mCons (mVar 1) (mNil)) [some (tarD b rs), some ad, none, none, none, none, none, none, none] S = .ok (as.map aD) S := by
      unfold lList
      rw [cons1_ok rfl]
      show (match asSeq S ad with
        | some ds => Rs.ok ds S
        | none => _) = _
      rw [hd.asL]
    rw [a_sAsg, a_mFrz, this]
    rfl
  refine gv_nx (en1 := [some (tarD b rs), some ad, some (.lst (as.map aD)), some (.ref S.length), none, none, none, none, none]) (S1 := S ++ SO.dct (pK b rs as (pys as)) :: J) ?_ ?_
  · rw [a_sAsg, call_ok (ds := [tarD b rs, .lst (as.map aD)]) rfl ep]
    rfl
  have gd : ∀ (J : Sto), (S ++ SO.dct (pK b rs as (pys as)) :: J)[S.length]? = some (.dct (pK b rs as (pys as))) := fun J => by simp
  refine gv_nx (en1 := [some (tarD b rs), some ad, some (.lst (as.map aD)), some (.ref S.length), some (.lst ((pys as).map .int)), none, none, none, none]) (S1 := S ++ SO.dct (pK b rs as (pys as)) :: J) ?_ ?_
  · have c : lComp (iSeq (mVar 1)) (.nm 5) (mYes) (mBin dIx (mVar 5) (mC (.int 0))) [5] [some (tarD b rs), some ad, some (.lst (as.map aD)), some (.ref S.length), none, none, none, none, none] (S ++ SO.dct (pK b rs as (pys as)) :: J) = .ok ((as.map fun a => a.p).map .int) (S ++ SO.dct (pK b rs as (pys as)) :: J) := by
      rw [lComp_map as aD (fun a => D.int a.p) (hi _ _ _ (hd.up _) rfl) rfl (hc _ (hd.up _)) hz fun a _ => ⟨_, rfl, ?_⟩]
      · simp
      · rfl
    rw [a_sAsg, a_mFrz, sortSet_ok (ns := as.map fun a => a.p) (cons1_ok (by rw [a_mFrz, c]; rfl)) (by simpa using ha.l)]
    rfl
  refine gv_nx (en1 := [some (tarD b rs), some ad, some (.lst (as.map aD)), some (.ref S.length), some (.lst ((pys as).map .int)), none, none, none, none]) (S1 := S ++ SO.dct (pK b rs as (pys as)) :: J) ?_ ?_
  · have t1 := tyD_dct (gd J)
    have t2 : mFrz (lList (mCons (mVar 3) (mNil))) [some (tarD b rs), some ad, some (.lst (as.map aD)), some (.ref S.length), some (.lst ((pys as).map .int)), none, none, none, none] (S ++ SO.dct (pK b rs as (pys as)) :: J) = .ok (.lst ((pys as).map .int)) (S ++ SO.dct (pK b rs as (pys as)) :: J) := by
      rw [a_mFrz, lkeys (ps := pys as) (cons1_ok rfl) (gd J)]
      rfl
    have t3 := dNe_self (S := S ++ SO.dct (pK b rs as (pys as)) :: J) (pdS_ints (pys as) _) (pdS_ints (pys as) _) (shaped_ints _)
    have t4 : mTest (mIsi [.dct] (mVar 3)) [some (tarD b rs), some ad, some (.lst (as.map aD)), some (.ref S.length), some (.lst ((pys as).map .int)), none, none, none, none] (S ++ SO.dct (pK b rs as (pys as)) :: J) = .ok true (S ++ SO.dct (pK b rs as (pys as)) :: J) := by
      rw [a_mTest, a_mIsi]
      show ((match tyD (S ++ SO.dct (pK b rs as (pys as)) :: J) (.ref S.length) with
          | some t => Rs.ok (D.bl ([BT.dct].any (isB t))) (S ++ SO.dct (pK b rs as (pys as)) :: J)
          | none => .bad).bind asB) = _
      rw [t1]
      rfl
    have t5 : mTest (mBin dNe (mFrz (lList (mCons (mVar 3) (mNil)))) (mVar 4)) [some (tarD b rs), some ad, some (.lst (as.map aD)), some (.ref S.length), some (.lst ((pys as).map .int)), none, none, none, none] (S ++ SO.dct (pK b rs as (pys as)) :: J) = .ok false (S ++ SO.dct (pK b rs as (pys as)) :: J) := by
      rw [a_mTest, a_mBin, t2]
      simp [Rs.bind, a_mVar, t3, opt, asB]
    rw [a_sIf, a_mOr, a_mNot, t4]
    simp only [Rs.bind, Bool.not_true, Bool.false_eq_true, if_false]
    rw [t5]
    rfl
  have e0 : mBin dAdd (mVar 4) (mFrz (lDis (mCons (mC (.int 7)) (mNil)))) [some (tarD b rs), some ad, some (.lst (as.map aD)), some (.ref S.length), some (.lst ((pys as).map .int)), none, none, none, none] (S ++ SO.dct (pK b rs as (pys as)) :: J) = .ok (.lst ((pys as ++ [7]).map .int)) (S ++ SO.dct (pK b rs as (pys as)) :: J) := by
    have z : ∀ S2 : Sto, dAdd (D.lst ((pys as).map D.int)) (D.lst [D.int 7]) S2 = some (D.lst ((pys as ++ [7]).map D.int)) := fun S2 => by
      show (if _ then some (D.lst (((pys as).map D.int) ++ [D.int 7])) else none) = _
      rw [if_pos (by rw [sizeLine_v]; have := pys_len ha; simp; omega)]
      simp
    simp [a_mBin, a_mVar, a_mFrz, a_lDis, a_mCons, a_mC, a_mNil, Rs.bind, sizeLine_v, z, opt]
  refine gv_for (pys as ++ [7]) D.int (fun rest en S' => ∃ o6 o7 o8 J, en = [some (tarD b rs), some ad, some (.lst (as.map aD)), some (.ref S.length), some (.lst ((pys as).map .int)), none, o6, o7, o8] ∧ S' = S ++ SO.dct (pK b rs as (pys as)) :: J ∧ ∀ q ∈ rest, q ∈ pys as ++ [7])
    (iSeq_lst e0) rfl ⟨none, none, none, J, rfl, rfl, fun q hq => hq⟩ (fun _ _ _ _ => rfl) ?_ ?_
  · rintro q rest en S' ⟨o6, o7, o8, J, rfl, rfl, hm⟩
    have hq := hm q List.mem_cons_self
    refine ⟨_, rfl, .inl ?_⟩
    have hmine : ∀ a ∈ mine q as, AOk a := fun a hx => ha.a a (List.mem_filter.mp hx).1
    have hml : (mine q as).length ≤ 63 := Nat.le_trans (List.length_filter_le _ _) ha.l
    have f1 := ev_lbill (p := q) (S ++ SO.dct (pK b rs as (pys as)) :: J) h hr ha (hd.up _)
    have f2 := ev_bill (p := q) (S ++ SO.dct (pK b rs as (pys as)) :: J) h hr ha
    have a1 : sAsg (.nm 7) (mCall m__law_bill [] (mCons (mVar 0) (mCons (mVar 1) (mCons (mVar 6) (mNil))))) [some (tarD b rs), some ad, some (.lst (as.map aD)), some (.ref S.length), some (.lst ((pys as).map .int)), none, some (.int q), o7, o8] (S ++ SO.dct (pK b rs as (pys as)) :: J) = .nx [some (tarD b rs), some ad, some (.lst (as.map aD)), some (.ref S.length), some (.lst ((pys as).map .int)), none, some (.int q), some (.tup [.lst ((mine q as).map (bRow b rs)), .int (tot b rs q as)]), o8] (S ++ SO.dct (pK b rs as (pys as)) :: J) := by
      rw [a_sAsg, call_ok (ds := [tarD b rs, ad, .int q]) rfl f1]
      rfl
    have a2 : sAsg (.nm 8) (mCall m_bill [] (mCons (mVar 0) (mCons (mVar 2) (mCons (mVar 6) (mNil))))) [some (tarD b rs), some ad, some (.lst (as.map aD)), some (.ref S.length), some (.lst ((pys as).map .int)), none, some (.int q), some (.tup [.lst ((mine q as).map (bRow b rs)), .int (tot b rs q as)]), o8] (S ++ SO.dct (pK b rs as (pys as)) :: J) = .nx [some (tarD b rs), some ad, some (.lst (as.map aD)), some (.ref S.length), some (.lst ((pys as).map .int)), none, some (.int q), some (.tup [.lst ((mine q as).map (bRow b rs)), .int (tot b rs q as)]), some (.tup [.ref (S ++ SO.dct (pK b rs as (pys as)) :: J).length, .int (tot b rs q as)])] ((S ++ SO.dct (pK b rs as (pys as)) :: J) ++ [.lst ((mine q as).map (bRow b rs))]) := by
      rw [a_sAsg, call_ok (ds := [tarD b rs, .lst (as.map aD), .int q]) rfl f2]
      rfl
    generalize hS1 : (S ++ SO.dct (pK b rs as (pys as)) :: J) = S1 at *
    have gd1 : ∀ K : Sto, (S1 ++ K)[S.length]? = some (.dct (pK b rs as (pys as))) := fun K => by rw [← hS1]; simp
    have al := alike_bill (b := b) (rs := rs) (t := tot b rs q as) (S1 ++ [.lst ((mine q as).map (bRow b rs))]) hml hmine get_last
    have gg : mGet2 (mVar 3) (mVar 6) (mC (.int 0)) [some (tarD b rs), some ad, some (.lst (as.map aD)), some (.ref S.length), some (.lst ((pys as).map .int)), none, some (.int q), some (.tup [.lst ((mine q as).map (bRow b rs)), .int (tot b rs q as)]), some (.tup [.ref S1.length, .int (tot b rs q as)])] (S1 ++ [.lst ((mine q as).map (bRow b rs))]) = .ok (.int (tot b rs q as)) (S1 ++ [.lst ((mine q as).map (bRow b rs))]) := by
      have v : (valD (pK b rs as (pys as)) (Sum.inl q)).getD (.int 0) = .int (tot b rs q as) := by
        by_cases hp : q ∈ pys as
        · rw [valD_pK hp]; rfl
        · rw [valD_none (pK_new hp), tot_none fun hx => hp (pys_mem.mpr hx)]; rfl
      unfold mGet2
      rw [a_mVar]
      simp only [List.getElem?_cons_succ, List.getElem?_cons_zero, Rs.bind]
      rw [asK_ref (gd1 _)]
      simp only [Option.isSome_some, Bool.true_or, a_mVar, List.getElem?_cons_succ, List.getElem?_cons_zero, a_mC]
      rw [dGet_ref (gd1 _) (kk := Sum.inl q) rfl]
      dsimp only
      rw [v]
    have a3 : sIf (mOr (mNot (mTest (mCall (m__law_alike 6) [] (mCons (mVar 8) (mCons (mVar 7) (mNil)))))) (mTest (mBin dNe (mGet2 (mVar 3) (mVar 6) (mC (.int 0))) (mBin dIx (mVar 7) (mC (.int 1)))))) (sRet (mC (.bl false))) (sNil) [some (tarD b rs), some ad, some (.lst (as.map aD)), some (.ref S.length), some (.lst ((pys as).map .int)), none, some (.int q), some (.tup [.lst ((mine q as).map (bRow b rs)), .int (tot b rs q as)]), some (.tup [.ref S1.length, .int (tot b rs q as)])] (S1 ++ [.lst ((mine q as).map (bRow b rs))]) = .nx [some (tarD b rs), some ad, some (.lst (as.map aD)), some (.ref S.length), some (.lst ((pys as).map .int)), none, some (.int q), some (.tup [.lst ((mine q as).map (bRow b rs)), .int (tot b rs q as)]), some (.tup [.ref S1.length, .int (tot b rs q as)])] (S1 ++ [.lst ((mine q as).map (bRow b rs))]) := by
      rw [a_sIf, a_mOr, a_mNot, a_mTest, call_ok (ds := [.tup [.ref S1.length, .int (tot b rs q as)], .tup [.lst ((mine q as).map (bRow b rs)), .int (tot b rs q as)]]) rfl al]
      simp only [Rs.bind, asB, Bool.not_true, Bool.false_eq_true, if_false]
      have d1 : ∀ S2, dIx (.tup [.lst ((mine q as).map (bRow b rs)), .int (tot b rs q as)]) (.int 1) S2 = some (.int (tot b rs q as)) := fun _ => rfl
      rw [a_mTest, a_mBin, gg]
      simp [Rs.bind, Rs.then, a_mBin, a_mVar, a_mC, opt, d1, dNe_int, asB, a_sNil]
    have a4 : sExp (mAppend (mBin dIx (mVar 8) (mC (.int 0))) (mCons (mC .non) (mNil))) [some (tarD b rs), some ad, some (.lst (as.map aD)), some (.ref S.length), some (.lst ((pys as).map .int)), none, some (.int q), some (.tup [.lst ((mine q as).map (bRow b rs)), .int (tot b rs q as)]), some (.tup [.ref S1.length, .int (tot b rs q as)])] (S1 ++ [.lst ((mine q as).map (bRow b rs))]) = .nx [some (tarD b rs), some ad, some (.lst (as.map aD)), some (.ref S.length), some (.lst ((pys as).map .int)), none, some (.int q), some (.tup [.lst ((mine q as).map (bRow b rs)), .int (tot b rs q as)]), some (.tup [.ref S1.length, .int (tot b rs q as)])] (S1 ++ [.lst ((mine q as).map (bRow b rs) ++ [.non])]) := by
      rw [a_sExp, append_ok (i := S1.length) rfl get_last rfl (by rw [sizeLine_v]; simp; omega), set_last]
      rfl
    have f3 := ev_bill (p := q) (S1 ++ [.lst ((mine q as).map (bRow b rs) ++ [.non])]) h hr ha
    have al2 := alike_bill (b := b) (rs := rs) (t := tot b rs q as) ((S1 ++ [.lst ((mine q as).map (bRow b rs) ++ [.non])]) ++ [.lst ((mine q as).map (bRow b rs))]) hml hmine get_last
    have a5 : sIf (mNot (mTest (mCall (m__law_alike 6) [] (mCons (mCall m_bill [] (mCons (mVar 0) (mCons (mVar 2) (mCons (mVar 6) (mNil))))) (mCons (mVar 7) (mNil)))))) (sRet (mC (.bl false))) (sNil) [some (tarD b rs), some ad, some (.lst (as.map aD)), some (.ref S.length), some (.lst ((pys as).map .int)), none, some (.int q), some (.tup [.lst ((mine q as).map (bRow b rs)), .int (tot b rs q as)]), some (.tup [.ref S1.length, .int (tot b rs q as)])] (S1 ++ [.lst ((mine q as).map (bRow b rs) ++ [.non])]) = .nx [some (tarD b rs), some ad, some (.lst (as.map aD)), some (.ref S.length), some (.lst ((pys as).map .int)), none, some (.int q), some (.tup [.lst ((mine q as).map (bRow b rs)), .int (tot b rs q as)]), some (.tup [.ref S1.length, .int (tot b rs q as)])] ((S1 ++ [.lst ((mine q as).map (bRow b rs) ++ [.non])]) ++ [.lst ((mine q as).map (bRow b rs))]) := by
      rw [a_sIf, a_mNot, a_mTest, a_mCall, a_mCons, call_ok (ds := [tarD b rs, .lst (as.map aD), .int q]) rfl f3]
      simp only [Rs.bind]
      rw [cons1_ok rfl]
      dsimp only
      rw [List.append_nil, al2]
      rfl
    refine ⟨[some (tarD b rs), some ad, some (.lst (as.map aD)), some (.ref S.length), some (.lst ((pys as).map .int)), none, some (.int q), some (.tup [.lst ((mine q as).map (bRow b rs)), .int (tot b rs q as)]), some (.tup [.ref S1.length, .int (tot b rs q as)])], (S1 ++ [.lst ((mine q as).map (bRow b rs) ++ [.non])]) ++ [.lst ((mine q as).map (bRow b rs))], ?_, some (.int q), some (.tup [.lst ((mine q as).map (bRow b rs)), .int (tot b rs q as)]), some (.tup [.ref S1.length, .int (tot b rs q as)]), J ++ [.lst ((mine q as).map (bRow b rs) ++ [.non]), .lst ((mine q as).map (bRow b rs))], rfl, by rw [← hS1]; simp, fun x hx => hm x (List.mem_cons_of_mem _ hx)⟩
    rw [a_sSeq]
    show RSt.seq (sAsg (.nm 7) _ [some (tarD b rs), some ad, some (.lst (as.map aD)), some (.ref S.length), some (.lst ((pys as).map .int)), none, some (.int q), o7, o8] S1) _ = _
    rw [a1]
    simp only [RSt.seq]
    rw [a_sSeq, a2]
    simp only [RSt.seq]
    rw [a_sSeq, a3]
    simp only [RSt.seq]
    rw [a_sSeq, a4]
    simp only [RSt.seq]
    rw [a5]
  · rintro en S' ⟨o6, o7, o8, J, rfl, rfl, _⟩
    refine gv_nx (en1 := [some (tarD b rs), some ad, some (.lst (as.map aD)), some (.ref S.length), some (.lst ((pys as).map .int)), none, o6, o7, o8]) (S1 := S ++ SO.dct [] :: J) ?_ ?_
    · have c : mDclear (mVar 3) [some (tarD b rs), some ad, some (.lst (as.map aD)), some (.ref S.length), some (.lst ((pys as).map .int)), none, o6, o7, o8] (S ++ SO.dct (pK b rs as (pys as)) :: J) = .ok .non (S ++ SO.dct [] :: J) := by
        unfold mDclear
        rw [a_mVar]
        simp only [List.getElem?_cons_succ, List.getElem?_cons_zero, Rs.bind]
        rw [gd J]
        simp [List.set_append]
      rw [a_sExp, c]
      rfl
    · obtain ⟨J2, ep2⟩ := ev_pays (b := b) (rs := rs) (as := as) (S ++ SO.dct [] :: J) h hr ha
      have g2 : ((S ++ SO.dct [] :: J) ++ SO.dct (pK b rs as (pys as)) :: J2)[(S ++ SO.dct [] :: J).length]? = some (.dct (pK b rs as (pys as))) := by simp
      refine gv_ret (J := SO.dct [] :: (J ++ SO.dct (pK b rs as (pys as)) :: J2)) ?_
      have t1 : mBin dEq (mVar 2) (mVar 1) [some (tarD b rs), some ad, some (.lst (as.map aD)), some (.ref S.length), some (.lst ((pys as).map .int)), none, o6, o7, o8] (S ++ SO.dct [] :: J) = .ok (.bl true) (S ++ SO.dct [] :: J) := by
        have := dEq_self (S := S ++ SO.dct [] :: J) (pdS_acc (as := as) (.inl rfl)) (pdS_acc (hd.up _)) (shaped_acc ha.a)
        rw [a_mBin]
        simp only [a_mVar, List.getElem?_cons_succ, List.getElem?_cons_zero, Rs.bind]
        rw [this]
        rfl
      have t2 : mBin dEq (mFrz (lList (mCons (mCall m_pays [] (mCons (mVar 0) (mCons (mVar 2) (mNil)))) (mNil)))) (mVar 4) [some (tarD b rs), some ad, some (.lst (as.map aD)), some (.ref S.length), some (.lst ((pys as).map .int)), none, o6, o7, o8] (S ++ SO.dct [] :: J) = .ok (.bl true) ((S ++ SO.dct [] :: J) ++ SO.dct (pK b rs as (pys as)) :: J2) := by
        have l1 : lList (mCons (mCall m_pays [] (mCons (mVar 0) (mCons (mVar 2) (mNil)))) (mNil)) [some (tarD b rs), some ad, some (.lst (as.map aD)), some (.ref S.length), some (.lst ((pys as).map .int)), none, o6, o7, o8] (S ++ SO.dct [] :: J) = .ok ((pys as).map .int) ((S ++ SO.dct [] :: J) ++ SO.dct (pK b rs as (pys as)) :: J2) := by
          have e1 : asSeq ((S ++ SO.dct [] :: J) ++ SO.dct (pK b rs as (pys as)) :: J2) (.ref (S ++ SO.dct [] :: J).length) = none := by
            unfold asSeq asT asL
            dsimp only
            rw [g2]
          unfold lList
          rw [a_mCons, call_ok (ds := [tarD b rs, .lst (as.map aD)]) rfl ep2]
          simp only [Rs.bind, a_mNil]
          rw [e1, asK_ref g2]
          dsimp only
          rw [pK_keys]
        have := dEq_self (S := (S ++ SO.dct [] :: J) ++ SO.dct (pK b rs as (pys as)) :: J2) (pdS_ints (pys as) _) (pdS_ints (pys as) _) (shaped_ints _)
        rw [a_mBin, a_mFrz, l1]
        simp only [a_mVar, List.getElem?_cons_succ, List.getElem?_cons_zero, Rs.bind]
        rw [this]
        rfl
      rw [a_mAndV, t1]
      simp only [Rs.bind, if_true]
      rw [t2]
      simp
end
/-! ### the law -/
theorem cut_take {α : Type} (f : α → D) (l : List α) (k : Int) (hk : 0 ≤ k) : cutD (l.map f) none (some k) = (l.take k.toNat).map f := by
  unfold cutD
  have e : HT.sIx (l.map f).length 0 none = 0 := rfl
  have e2 : HT.sIx (l.map f).length (l.map f).length (some k) = min k.toNat l.length := by
    show (if k < 0 then (k + ((l.map f).length : Int)).toNat else min k.toNat (l.map f).length) = _
    rw [if_neg (by omega), List.length_map]
  rw [e, e2, Nat.sub_zero, List.drop_zero, ← List.map_take]
  rcases Nat.le_total k.toNat l.length with h | h
  · rw [Nat.min_eq_left h]
  · rw [Nat.min_eq_right h, List.take_of_length_le (Nat.le_refl _), List.take_of_length_le h]
theorem asok_app {as : List Acct} {a : Acct} (h : AsOk as) (ha : AOk a) (hl : as.length < 63) : AsOk (as ++ [a]) := ⟨fun x hx => by
  rcases List.mem_append.mp hx with hx | hx
  · exact h.a x hx
  · rw [List.mem_singleton.mp hx]; exact ha, by simp; omega⟩
theorem law_body {b : Bd} {rs : List (Str × List Int)} {as : List Acct} {sc : D} {c z : Int} {j : Nat} (S : Sto) (h : BdOk b) (hr : POk rs) (ha : AsOk as) (hl : as.length ≤ 38) (hz : z.natAbs.log2 < 1048576) (hS : S[j]? = some (.lst (as.map aD))) :
    ∃ j2 as2 S2, (sSeq (sExp (mAppend (mVar 3) (mCons (mCall m__law_account [] (mCons (mVar 4) (mNil))) (mNil))))
  (sSeq (sIf (mTest (mBin dEq (mBin dMod (mCall m__law_mixed [] (mCons (mVar 4) (mCons (mC (.int 457)) (mNil)))) (mC (.int 4))) (mC (.int 0)))) (sExp (mAppend (mVar 3) (mCons (mBin dIx (mVar 3) (mBin dMod (mCall m__law_mixed [] (mCons (mVar 4) (mCons (mC (.int 458)) (mNil)))) (mOpN oLen (mCons (mVar 3) (mNil))))) (mNil)))) (sNil))
  (sIf (mTest (mBin dGt (mOpN oLen (mCons (mVar 3) (mNil))) (mC (.int 38)))) (sSeq (sIf (mNot (mTest (mCall m__law_right [] (mCons (mVar 2) (mCons (mVar 3) (mNil)))))) (sRet (mC (.bl false))) (sNil))
  (sAsg (.nm 3) (mNew (lSl (mVar 3) (mNoPart) (mPart (mBin dMod (mCall m__law_mixed [] (mCons (mVar 4) (mCons (mC (.int 459)) (mNil)))) (mC (.int 5)))))))) (sNil))))
    [some sc, some (.int c), some (tarD b rs), some (.ref j), some (.int z)] S = .nx [some sc, some (.int c), some (tarD b rs), some (.ref j2), some (.int z)] S2 ∧ AsOk as2 ∧ as2.length ≤ 38 ∧ S2[j2]? = some (.lst (as2.map aD)) := by
  have hj : j < S.length := (List.getElem?_eq_some_iff.mp hS).1
  have hz2 : z.natAbs.log2 < 2000000 := by omega
  -- first
  have a1 : sExp (mAppend (mVar 3) (mCons (mCall m__law_account [] (mCons (mVar 4) (mNil))) (mNil))) [some sc, some (.int c), some (tarD b rs), some (.ref j), some (.int z)] S = .nx [some sc, some (.int c), some (tarD b rs), some (.ref j), some (.int z)] (S.set j (.lst ((as ++ [acct z]).map aD))) := by
    have e := ev_account (c := z) S (by omega)
    rw [a_sExp, append_ok (i := j) (ds := as.map aD) (y := aD (acct z)) rfl hS (cons1_ok (call_ok (ds := [.int z]) rfl e)) (by rw [sizeLine_v]; simp; omega)]
    simp [Rs.then]
  have hA1 : AsOk (as ++ [acct z]) := asok_app ha (acct_ok z) (by omega)
  have hS1 : (S.set j (.lst ((as ++ [acct z]).map aD)))[j]? = some (.lst ((as ++ [acct z]).map aD)) := List.getElem?_set_self hj
  have hj1 : j < (S.set j (.lst ((as ++ [acct z]).map aD))).length := by simpa using hj
  generalize S.set j (.lst ((as ++ [acct z]).map aD)) = S1 at *
  have hl1 : (as ++ [acct z]).length ≤ 39 := by simp; omega
  have hl0 : 1 ≤ (as ++ [acct z]).length := by simp
  generalize as ++ [acct z] = as1 at *
  -- second
  have a2 : ∃ as2 S2, sIf (mTest (mBin dEq (mBin dMod (mCall m__law_mixed [] (mCons (mVar 4) (mCons (mC (.int 457)) (mNil)))) (mC (.int 4))) (mC (.int 0)))) (sExp (mAppend (mVar 3) (mCons (mBin dIx (mVar 3) (mBin dMod (mCall m__law_mixed [] (mCons (mVar 4) (mCons (mC (.int 458)) (mNil)))) (mOpN oLen (mCons (mVar 3) (mNil))))) (mNil)))) (sNil) [some sc, some (.int c), some (tarD b rs), some (.ref j), some (.int z)] S1 = .nx [some sc, some (.int c), some (tarD b rs), some (.ref j), some (.int z)] S2 ∧ AsOk as2 ∧ as2.length ≤ 40 ∧ S2[j]? = some (.lst (as2.map aD)) := by
    have e1 := ev_mixed (c := z) (k := 457) S1 hz2 (by decide)
    have e2 := ev_mixed (c := z) (k := 458) S1 hz2 (by decide)
    by_cases h4 : mix z 457 % 4 = 0
    · have hlt : (mix z 458 % (as1.length : Int)).toNat < as1.length := by
        have := Int.emod_lt_of_pos (mix z 458) (show (0 : Int) < (as1.length : Int) by omega)
        have := Int.emod_nonneg (mix z 458) (show (as1.length : Int) ≠ 0 by omega)
        omega
      have hnn := Int.emod_nonneg (mix z 458) (show (as1.length : Int) ≠ 0 by omega)
      have d : dIx (.ref j) (.int (mix z 458 % (as1.length : Int))) S1 = some (aD (as1[(mix z 458 % (as1.length : Int)).toNat])) := by
        refine dIx_ref hS1 ?_
        have := Mi.atI_nat (xs := as1.map aD) (j := (mix z 458 % (as1.length : Int)).toNat) (x := aD (as1[(mix z 458 % (as1.length : Int)).toNat])) (by simp [hlt])
        rwa [Int.toNat_of_nonneg hnn] at this
      have l : mOpN oLen (mCons (mVar 3) (mNil)) [some sc, some (.int c), some (tarD b rs), some (.ref j), some (.int z)] S1 = .ok (.int (as1.length : Int)) S1 := by
        rw [a_mOpN, cons1_ok rfl]
        have : oLen [.ref j] S1 = some (.int (as1.length : Int)) := by
          unfold oLen asSeq asT
          dsimp only
          rw [asL_ref hS1]
          simp
        simp [Rs.bind, this, opt]
      have m : mBin dIx (mVar 3) (mBin dMod (mCall m__law_mixed [] (mCons (mVar 4) (mCons (mC (.int 458)) (mNil)))) (mOpN oLen (mCons (mVar 3) (mNil)))) [some sc, some (.int c), some (tarD b rs), some (.ref j), some (.int z)] S1 = .ok (aD (as1[(mix z 458 % (as1.length : Int)).toNat])) S1 := by
        have q : mBin dMod (mCall m__law_mixed [] (mCons (mVar 4) (mCons (mC (.int 458)) (mNil)))) (mOpN oLen (mCons (mVar 3) (mNil))) [some sc, some (.int c), some (tarD b rs), some (.ref j), some (.int z)] S1 = .ok (.int (mix z 458 % (as1.length : Int))) S1 := by
          rw [a_mBin, call_ok (ds := [.int z, .int 458]) rfl e2]
          simp only [Rs.bind]
          rw [l]
          simp only
          rw [dMod_pos (by omega)]
          rfl
        rw [a_mBin, a_mVar]
        simp only [List.getElem?_cons_succ, List.getElem?_cons_zero, Rs.bind]
        rw [q]
        simp only
        rw [d]
        rfl
      refine ⟨as1 ++ [as1[(mix z 458 % (as1.length : Int)).toNat]], S1.set j (.lst ((as1 ++ [as1[(mix z 458 % (as1.length : Int)).toNat]]).map aD)), ?_, asok_app hA1 (hA1.a _ (List.getElem_mem _)) (by omega), by simp; omega, List.getElem?_set_self hj1⟩
      have t : mTest (mBin dEq (mBin dMod (mCall m__law_mixed [] (mCons (mVar 4) (mCons (mC (.int 457)) (mNil)))) (mC (.int 4))) (mC (.int 0))) [some sc, some (.int c), some (tarD b rs), some (.ref j), some (.int z)] S1 = .ok true S1 := by simp [a_runB, a_sSeq, a_sAsg, a_sRet, a_sRetN, a_sExp, a_sIf, a_sNil, a_sRaise, a_sFor, a_mBin, a_mUn, a_mVar, a_mC, opt, a_mNil, a_mCons, a_mOpN, asB, a_mTest, a_mAnd, a_mOr, a_mNot, a_mAndV, a_mOrV, a_mNotV, a_mIf, a_mChain, a_mTup, a_mFrz, a_mNew, a_lDis, a_mCall, a_mMeth, a_mIsi, a_mFld, tyD, isB, a_mPart, a_mNoPart, Rs.bind, Rs.then, RSt.seq, asgn, asSeq, asT, asL, asI, setAll, dAdd_int, dSub_int, dLt_int, dLe_int, dGt_int, dGe_int, dNeg_int, dEq_int, dNe_int, dEq_bl, dNe_bl, dIsN_non, dIsN_int, dIsN_str, dIsN_lst, dIsN_tup, sizeLine_v, e1, dMod_pos, h4]
      rw [a_sIf, t]
      simp only [Rs.then, if_true]
      rw [a_sExp, append_ok (i := j) (ds := as1.map aD) rfl hS1 (cons1_ok m) (by rw [sizeLine_v]; simp; omega)]
      simp [Rs.then]
    · refine ⟨as1, S1, ?_, hA1, by omega, hS1⟩
      simp [a_runB, a_sSeq, a_sAsg, a_sRet, a_sRetN, a_sExp, a_sIf, a_sNil, a_sRaise, a_sFor, a_mBin, a_mUn, a_mVar, a_mC, opt, a_mNil, a_mCons, a_mOpN, asB, a_mTest, a_mAnd, a_mOr, a_mNot, a_mAndV, a_mOrV, a_mNotV, a_mIf, a_mChain, a_mTup, a_mFrz, a_mNew, a_lDis, a_mCall, a_mMeth, a_mIsi, a_mFld, tyD, isB, a_mPart, a_mNoPart, Rs.bind, Rs.then, RSt.seq, asgn, asSeq, asT, asL, asI, setAll, dAdd_int, dSub_int, dLt_int, dLe_int, dGt_int, dGe_int, dNeg_int, dEq_int, dNe_int, dEq_bl, dNe_bl, dIsN_non, dIsN_int, dIsN_str, dIsN_lst, dIsN_tup, sizeLine_v, e1, dMod_pos, h4]
  obtain ⟨as2, S2, a2, hA2, hl2, hS2⟩ := a2
  -- third
  have l : mOpN oLen (mCons (mVar 3) (mNil)) [some sc, some (.int c), some (tarD b rs), some (.ref j), some (.int z)] S2 = .ok (.int (as2.length : Int)) S2 := by
    rw [a_mOpN, cons1_ok rfl]
    have : oLen [.ref j] S2 = some (.int (as2.length : Int)) := by
      unfold oLen asSeq asT
      dsimp only
      rw [asL_ref hS2]
      simp
    simp [Rs.bind, this, opt]
  by_cases hb : 38 < as2.length
  · have t : mTest (mBin dGt (mOpN oLen (mCons (mVar 3) (mNil))) (mC (.int 38))) [some sc, some (.int c), some (tarD b rs), some (.ref j), some (.int z)] S2 = .ok true S2 := by
      rw [a_mTest, a_mBin, l]
      have : (38 : Int) < (as2.length : Int) := by omega
      simp [Rs.bind, a_mC, dGt_int, opt, asB, this]
    have e3 := ev_right (b := b) (rs := rs) (as := as2) (ad := .ref j) S2 h hr hA2 (.inr ⟨j, rfl, hS2⟩)
    have e4 := ev_mixed (c := z) (k := 459) S2 hz2 (by decide)
    have k0 : 0 ≤ mix z 459 % 5 ∧ mix z 459 % 5 < 5 := by omega
    have s1 : lSl (mVar 3) (mNoPart) (mPart (mBin dMod (mCall m__law_mixed [] (mCons (mVar 4) (mCons (mC (.int 459)) (mNil)))) (mC (.int 5)))) [some sc, some (.int c), some (tarD b rs), some (.ref j), some (.int z)] S2 = .ok ((as2.take (mix z 459 % 5).toNat).map aD) S2 := by
      have q : mPart (mBin dMod (mCall m__law_mixed [] (mCons (mVar 4) (mCons (mC (.int 459)) (mNil)))) (mC (.int 5))) [some sc, some (.int c), some (tarD b rs), some (.ref j), some (.int z)] S2 = .ok (some (mix z 459 % 5)) S2 := by simp [a_runB, a_sSeq, a_sAsg, a_sRet, a_sRetN, a_sExp, a_sIf, a_sNil, a_sRaise, a_sFor, a_mBin, a_mUn, a_mVar, a_mC, opt, a_mNil, a_mCons, a_mOpN, asB, a_mTest, a_mAnd, a_mOr, a_mNot, a_mAndV, a_mOrV, a_mNotV, a_mIf, a_mChain, a_mTup, a_mFrz, a_mNew, a_lDis, a_mCall, a_mMeth, a_mIsi, a_mFld, tyD, isB, a_mPart, a_mNoPart, Rs.bind, Rs.then, RSt.seq, asgn, asSeq, asT, asL, asI, setAll, dAdd_int, dSub_int, dLt_int, dLe_int, dGt_int, dGe_int, dNeg_int, dEq_int, dNe_int, dEq_bl, dNe_bl, dIsN_non, dIsN_int, dIsN_str, dIsN_lst, dIsN_tup, sizeLine_v, e4, dMod_pos]
      unfold lSl
      rw [a_mVar]
      simp only [List.getElem?_cons_succ, List.getElem?_cons_zero, Rs.bind, a_mNoPart]
      rw [q]
      simp only
      rw [asL_ref hS2]
      dsimp only
      rw [cut_take _ _ _ k0.1]
    refine ⟨S2.length, as2.take (mix z 459 % 5).toNat, S2 ++ [.lst ((as2.take (mix z 459 % 5).toNat).map aD)], ?_, ⟨fun a hx => hA2.a a (List.mem_of_mem_take hx), by simp; omega⟩, by simp; omega, get_last⟩
    rw [a_sSeq, a1]
    simp only [RSt.seq]
    rw [a_sSeq, a2]
    simp only [RSt.seq]
    rw [a_sIf, t]
    simp only [Rs.then, if_true]
    have r : sIf (mNot (mTest (mCall m__law_right [] (mCons (mVar 2) (mCons (mVar 3) (mNil)))))) (sRet (mC (.bl false))) (sNil) [some sc, some (.int c), some (tarD b rs), some (.ref j), some (.int z)] S2 = .nx [some sc, some (.int c), some (tarD b rs), some (.ref j), some (.int z)] S2 := by
      rw [a_sIf, a_mNot, a_mTest, call_ok (ds := [tarD b rs, .ref j]) rfl e3]
      rfl
    rw [a_sSeq, r]
    simp only [RSt.seq]
    rw [a_sAsg, a_mNew, s1]
    rfl
  · have t : mTest (mBin dGt (mOpN oLen (mCons (mVar 3) (mNil))) (mC (.int 38))) [some sc, some (.int c), some (tarD b rs), some (.ref j), some (.int z)] S2 = .ok false S2 := by
      rw [a_mTest, a_mBin, l]
      have : ¬ (38 : Int) < (as2.length : Int) := by omega
      simp [Rs.bind, a_mC, dGt_int, opt, asB, this]
    refine ⟨j, as2, S2, ?_, hA2, by omega, hS2⟩
    rw [a_sSeq, a1]
    simp only [RSt.seq]
    rw [a_sSeq, a2]
    simp only [RSt.seq]
    rw [a_sIf, t]
    rfl
theorem law2 : Law2 := by
  intro ns hl hb
  have hbits : ∀ z ∈ ns, z.natAbs.log2 < 1048576 := fun z hz => sm_bits (hb z hz)
  obtain ⟨c, hc, ec⟩ := ev_cell_at hbits
  obtain ⟨l, hlo, hld⟩ : ∃ l : List Int, LOk l ∧ ((lowD c = .non ∧ l = []) ∨ lowD c = .lst (l.map .int)) := by
    cases e : low c with
    | none => exact ⟨[], ⟨List.nodup_nil, by simp, by simp⟩, .inl ⟨by unfold lowD; rw [e], rfl⟩⟩
    | some l => exact ⟨l, low_ok e, .inr (by unfold lowD; rw [e])⟩
  have hB : BdOk ⟨rows c, l⟩ := ⟨rows_ok c, hlo⟩
  obtain ⟨hP, hPl⟩ := prows_ok c
  have main : Gv (.bl true) [] (b_law [some (.lst (ns.map .int)), none, none, none, none] []) := by
    refine gv_nx (en1 := [some (.lst (ns.map .int)), some (.int c), none, none, none]) (S1 := []) ?_ ?_
    · show sAsg _ _ [some (.lst (ns.map .int)), none, none, none, none] [] = _
      rw [a_sAsg, call_ok (ds := [.lst (ns.map .int), .int 0]) rfl (ec [])]
      rfl
    refine gv_nx (en1 := [some (.lst (ns.map .int)), some (.int c), some (tarD ⟨rows c, l⟩ (prows c)), none, none]) (S1 := []) ?_ ?_
    · have r1 := ev_rows (c := c) [] hc
      have r2 := ev_low (c := c) [] hc
      have r3 := ev_price_rows (c := c) [] hc
      have b1 : mTrim (mFreeze (mMake 7 m_Bands_init [] (mCons (mCall m__law_rows [] (mCons (mVar 1) (mNil))) (mCons (mCall m__law_low [] (mCons (mVar 1) (mNil))) (mNil))))) [some (.lst (ns.map .int)), some (.int c), none, none, none] [] = .ok (bD ⟨rows c, l⟩) [] :=
        ev_mkBands [] (rows_ok c) hlo hld (cons2_ok (call_ok (ds := [.int c]) rfl r1) (call_ok (ds := [.int c]) rfl r2))
      have b2 : mTrim (mFreeze (mMake 8 m_Plan_init [] (mCons (mCall m__law_price_rows [] (mCons (mVar 1) (mNil))) (mNil)))) [some (.lst (ns.map .int)), some (.int c), none, none, none] [] = .ok (planD (prows c)) [] :=
        ev_mkPlan [] hP (by omega) (.inl rfl) (cons1_ok (call_ok (ds := [.int c]) rfl r3))
      rw [a_sAsg, ev_mkTariff [] hP (by omega) (cons2_ok b1 b2)]
      rfl
    refine gv_nx (en1 := [some (.lst (ns.map .int)), some (.int c), some (tarD ⟨rows c, l⟩ (prows c)), some (.ref 0), none]) (S1 := [.lst ([].map aD)]) (by simp [a_runB, a_sSeq, a_sAsg, a_sRet, a_sRetN, a_sExp, a_sIf, a_sNil, a_sRaise, a_sFor, a_mBin, a_mUn, a_mVar, a_mC, opt, a_mNil, a_mCons, a_mOpN, asB, a_mTest, a_mAnd, a_mOr, a_mNot, a_mAndV, a_mOrV, a_mNotV, a_mIf, a_mChain, a_mTup, a_mFrz, a_mNew, a_lDis, a_mCall, a_mMeth, a_mIsi, a_mFld, tyD, isB, a_mPart, a_mNoPart, Rs.bind, Rs.then, RSt.seq, asgn, asSeq, asT, asL, asI, setAll, dAdd_int, dSub_int, dLt_int, dLe_int, dGt_int, dGe_int, dNeg_int, dEq_int, dNe_int, dEq_bl, dNe_bl, dIsN_non, dIsN_int, dIsN_str, dIsN_lst, dIsN_tup, sizeLine_v]) ?_
    have e0 : mBin dAdd (mSl (mVar 0) (mNoPart) (mPart (mC (.int 150)))) (mFrz (lDis (mCons (mC (.int 101)) (mCons (mC (.int 103)) (mNil))))) [some (.lst (ns.map .int)), some (.int c), some (tarD ⟨rows c, l⟩ (prows c)), some (.ref 0), none] [.lst ([].map aD)] = .ok (.lst ((ns.take 150 ++ [101, 103]).map .int)) [.lst ([].map aD)] := by
      have z : ∀ S2 : Sto, dAdd (D.lst ((ns.take 150).map D.int)) (D.lst [D.int 101, D.int 103]) S2 = some (D.lst ((ns.take 150 ++ [101, 103]).map D.int)) := fun S2 => by
        show (if _ then some (D.lst (((ns.take 150).map D.int) ++ [D.int 101, D.int 103])) else none) = _
        rw [if_pos (by rw [sizeLine_v]; simp; omega)]
        simp
      have q : cutD (ns.map D.int) none (some 150) = (ns.take 150).map D.int := cut_take _ _ 150 (by decide)
      have s : mSl (mVar 0) (mNoPart) (mPart (mC (.int 150))) [some (.lst (ns.map .int)), some (.int c), some (tarD ⟨rows c, l⟩ (prows c)), some (.ref 0), none] [.lst ([].map aD)] = .ok (.lst ((ns.take 150).map .int)) [.lst ([].map aD)] := by
        rw [a_mSl, a_mVar]
        simp only [List.getElem?_cons_zero, Rs.bind, a_mNoPart, a_mPart, a_mC, dSl, asL]
        rw [q]
      rw [a_mBin, s]
      simp only [Rs.bind, a_mFrz, a_lDis, a_mCons, a_mC, a_mNil, List.length_cons, List.length_nil]
      rw [if_pos (by rw [sizeLine_v]; decide)]
      dsimp only
      rw [z]
      rfl
    refine gv_for (ns.take 150 ++ [101, 103]) D.int (fun rest en S' => ∃ j o4 as, en = [some (.lst (ns.map .int)), some (.int c), some (tarD ⟨rows c, l⟩ (prows c)), some (.ref j), o4] ∧ AsOk as ∧ as.length ≤ 38 ∧ S'[j]? = some (.lst (as.map aD)) ∧ ∀ z ∈ rest, z.natAbs.log2 < 1048576)
      (iSeq_lst e0) rfl ⟨0, none, [], rfl, ⟨by simp, by simp⟩, by simp, rfl, fun z hz => by
        rcases List.mem_append.mp hz with hz | hz
        · exact hbits z (List.mem_of_mem_take hz)
        · simp only [List.mem_cons, List.not_mem_nil, or_false] at hz
          rcases hz with rfl | rfl <;> decide⟩ (fun _ _ _ _ => rfl) ?_ ?_
    · rintro z rest en S' ⟨j, o4, as, rfl, hA, hl38, hS, hz⟩
      obtain ⟨j2, as2, S2, e, h1, h2, h3⟩ := law_body (sc := .lst (ns.map .int)) (c := c) S' hB hP hA hl38 (hz z List.mem_cons_self) hS
      exact ⟨_, rfl, .inl ⟨_, _, e, j2, _, as2, rfl, h1, h2, h3, fun x hx => hz x (List.mem_cons_of_mem _ hx)⟩⟩
    · rintro en S' ⟨j, o4, as, rfl, hA, hl38, hS, _⟩
      have e1 := ev_right (b := ⟨rows c, l⟩) (rs := prows c) (as := as) (ad := .ref j) S' hB hP hA (.inr ⟨j, rfl, hS⟩)
      have e2 := ev_right (b := ⟨rows c, l⟩) (rs := prows c) (as := []) (ad := .lst []) S' hB hP ⟨by simp, by simp⟩ (.inl rfl)
      refine gv_ret (J := S') ?_
      rw [a_mAndV, call_ok (ds := [tarD ⟨rows c, l⟩ (prows c), .ref j]) rfl e1]
      simp only [Rs.bind, if_true]
      rw [call_ok (ds := [tarD ⟨rows c, l⟩ (prows c), .lst []]) (by rfl) e2]
      rfl
  obtain ⟨J, e⟩ := main
  refine ⟨[] ++ J, ?_⟩
  show runB 1 5 b_law _ _ = _
  rw [a_runB, if_pos (show [D.lst (ns.map .int)].length = 1 from rfl)]
  show (match b_law [some (.lst (ns.map .int)), none, none, none, none] [] with
    | .nx _ S' => Rs.ok D.non S'
    | .rt d S' => .ok d S'
    | .exc x _ S' => .exc x S'
    | _ => .bad) = _
  rw [e]
end Gk84
theorem LAW2 : Gk84.Law2 := Gk84.law2
open PySem PySem.W PyProof.Rows in
set_option maxRecDepth 100000 in
set_option maxHeartbeats 0 in
theorem PySem.Challenge.cw_wirehall_k84_bills_holds : PySem.Challenge.rw_wirehall_k84_bills.Holds := by
  w_on; o_law; k_head; (case hw => w_witness2)
  k_fill
  refine Gk84.walk (l := PySem.Challenge.rw_wirehall_k84_bills) rfl rfl (fun w h Y => PySem.W.kIn_of Y) ?F
  case F =>
    intro w mg fa h KX G hmg
    refine' Gk84.all_mk LAW2 KX G hmg ?a_Bands ?pg_Bands ?hd_Bands ?po_Bands ?sa_Bands ?mk_Bands ?kc_Bands ?a_Plan ?pg_Plan ?hd_Plan ?po_Plan ?sa_Plan ?mk_Plan ?kc_Plan ?a_Tariff ?pg_Tariff ?hd_Tariff ?po_Tariff ?sa_Tariff ?mk_Tariff ?kc_Tariff ?a_NoBands ?xq_NoBands ?xk_NoBands ?xb_NoBands ?xt_NoBands ?a_NoFigures ?xq_NoFigures ?xk_NoFigures ?xb_NoFigures ?xt_NoFigures ?a_NoPrices ?xq_NoPrices ?xk_NoPrices ?xb_NoPrices ?xt_NoPrices ?a_NoTime ?xq_NoTime ?xk_NoTime ?xb_NoTime ?xt_NoTime ?a_TooMany ?xq_TooMany ?xk_TooMany ?xb_TooMany ?xt_TooMany ?na_7_1 ?na_7_2 ?na_7_3 ?na_7_4 ?na_8_5 ?na_8_6 ?na_9_7 ?na_9_8 ?a__law_mixed ?l__law_mixed ?c__law_mixed ?k__law_mixed ?a__law_cell_at ?l__law_cell_at ?c__law_cell_at ?k__law_cell_at ?a__law_figures ?l__law_figures ?c__law_figures ?k__law_figures ?a__law_prices ?l__law_prices ?c__law_prices ?k__law_prices ?a__law_price_rows ?l__law_price_rows ?c__law_price_rows ?k__law_price_rows ?a_is_figures ?l_is_figures ?c_is_figures ?k_is_figures ?a_Plan_init ?i_Plan_init ?l_Plan_init ?c_Plan_init ?k_Plan_init ?a__law_low ?l__law_low ?c__law_low ?k__law_low ?a__law_rows ?l__law_rows ?c__law_rows ?k__law_rows ?a_is_between ?l_is_between ?c_is_between ?k_is_between ?a_are_days ?l_are_days ?c_are_days ?k_are_days ?a_is_row ?l_is_row ?c_is_row ?k_is_row ?a_are_rows ?l_are_rows ?c_are_rows ?k_are_rows ?a_Bands_init ?i_Bands_init ?l_Bands_init ?c_Bands_init ?k_Bands_init ?d_Bands_init ?a_Plan_rows ?i_Plan_rows ?l_Plan_rows ?c_Plan_rows ?k_Plan_rows ?a_are_prices ?l_are_prices ?c_are_prices ?k_are_prices ?a_need_prices ?l_need_prices ?c_need_prices ?k_need_prices ?a_Tariff_init ?i_Tariff_init ?l_Tariff_init ?c_Tariff_init ?k_Tariff_init ?a__law_time ?l__law_time ?c__law_time ?k__law_time ?a__law_account ?l__law_account ?c__law_account ?k__law_account ?a_Plan_longest ?i_Plan_longest ?l_Plan_longest ?c_Plan_longest ?k_Plan_longest ?a_Plan_found ?i_Plan_found ?l_Plan_found ?c_Plan_found ?k_Plan_found ?a_Tariff_prices_of ?i_Tariff_prices_of ?l_Tariff_prices_of ?c_Tariff_prices_of ?k_Tariff_prices_of ?a_need_time ?l_need_time ?c_need_time ?k_need_time ?a_Bands_of_day ?i_Bands_of_day ?l_Bands_of_day ?c_Bands_of_day ?k_Bands_of_day ?a_Bands_ahead_of ?i_Bands_ahead_of ?l_Bands_ahead_of ?c_Bands_ahead_of ?k_Bands_ahead_of ?a_Bands_seconds ?i_Bands_seconds ?l_Bands_seconds ?c_Bands_seconds ?k_Bands_seconds ?a_Bands_cost ?i_Bands_cost ?l_Bands_cost ?c_Bands_cost ?k_Bands_cost ?a_Tariff_price ?i_Tariff_price ?l_Tariff_price ?c_Tariff_price ?k_Tariff_price ?a_bill ?l_bill ?c_bill ?k_bill ?a_pays ?l_pays ?c_pays ?k_pays ?a__law_bill ?l__law_bill ?c__law_bill ?k__law_bill ?a__law_alike ?l__law_alike ?c__law_alike ?k__law_alike ?a__law_right ?l__law_right ?c__law_right ?k__law_right ?a_law ?l_law ?c_law ?k_law ?b_all ?b_bool ?b_dict ?b_divmod ?b_enumerate ?b_int ?b_isinstance ?b_len ?b_list ?b_max ?b_min ?b_range ?b_set ?b_sorted ?b_str ?b_sum ?b_tuple ?b_zip ?g_BANDS ?g_DAY ?g_FIGURES ?g_LAST_TIME ?g_MOST_FIGURES ?g_MOST_PRICE ?g_MOST_ROWS_bands ?g_MOST_ROWS_plans ?g_WEEK
    (case a_Bands => k_is)
    (case pg_Bands => k_is)
    (case hd_Bands => k_is)
    (case po_Bands => k_is)
    (case sa_Bands => k_is)
    (case mk_Bands => k_is)
    (case kc_Bands => k_is)
    (case a_Plan => k_is)
    (case pg_Plan => k_is)
    (case hd_Plan => k_is)
    (case po_Plan => k_is)
    (case sa_Plan => k_is)
    (case mk_Plan => k_is)
    (case kc_Plan => k_is)
    (case a_Tariff => k_is)
    (case pg_Tariff => k_is)
    (case hd_Tariff => k_is)
    (case po_Tariff => k_is)
    (case sa_Tariff => k_is)
    (case mk_Tariff => k_is)
    (case kc_Tariff => k_is)
    (case a_NoBands => k_is)
    (case xq_NoBands => k_exc)
    (case xk_NoBands => k_is)
    (case xb_NoBands => k_is)
    (case xt_NoBands => k_is)
    (case a_NoFigures => k_is)
    (case xq_NoFigures => k_exc)
    (case xk_NoFigures => k_is)
    (case xb_NoFigures => k_is)
    (case xt_NoFigures => k_is)
    (case a_NoPrices => k_is)
    (case xq_NoPrices => k_exc)
    (case xk_NoPrices => k_is)
    (case xb_NoPrices => k_is)
    (case xt_NoPrices => k_is)
    (case a_NoTime => k_is)
    (case xq_NoTime => k_exc)
    (case xk_NoTime => k_is)
    (case xb_NoTime => k_is)
    (case xt_NoTime => k_is)
    (case a_TooMany => k_is)
    (case xq_TooMany => k_exc)
    (case xk_TooMany => k_is)
    (case xb_TooMany => k_is)
    (case xt_TooMany => k_is)
    (case na_7_1 => k_is)
    (case na_7_2 => k_is)
    (case na_7_3 => k_is)
    (case na_7_4 => k_is)
    (case na_8_5 => k_is)
    (case na_8_6 => k_is)
    (case na_9_7 => k_is)
    (case na_9_8 => k_is)
    (case a__law_mixed => k_is)
    (case l__law_mixed => k_is)
    (case c__law_mixed => k_is)
    (case k__law_mixed => k_is)
    (case a__law_cell_at => k_is)
    (case l__law_cell_at => k_is)
    (case c__law_cell_at => k_is)
    (case k__law_cell_at => k_is)
    (case a__law_figures => k_is)
    (case l__law_figures => k_is)
    (case c__law_figures => k_is)
    (case k__law_figures => k_is)
    (case a__law_prices => k_is)
    (case l__law_prices => k_is)
    (case c__law_prices => k_is)
    (case k__law_prices => k_is)
    (case a__law_price_rows => k_is)
    (case l__law_price_rows => k_is)
    (case c__law_price_rows => k_is)
    (case k__law_price_rows => k_is)
    (case a_is_figures => k_is)
    (case l_is_figures => k_is)
    (case c_is_figures => k_is)
    (case k_is_figures => k_is)
    (case a_Plan_init => k_is)
    (case i_Plan_init => k_is)
    (case l_Plan_init => k_is)
    (case c_Plan_init => k_is)
    (case k_Plan_init => k_is)
    (case a__law_low => k_is)
    (case l__law_low => k_is)
    (case c__law_low => k_is)
    (case k__law_low => k_is)
    (case a__law_rows => k_is)
    (case l__law_rows => k_is)
    (case c__law_rows => k_is)
    (case k__law_rows => k_is)
    (case a_is_between => k_is)
    (case l_is_between => k_is)
    (case c_is_between => k_is)
    (case k_is_between => k_is)
    (case a_are_days => k_is)
    (case l_are_days => k_is)
    (case c_are_days => k_is)
    (case k_are_days => k_is)
    (case a_is_row => k_is)
    (case l_is_row => k_is)
    (case c_is_row => k_is)
    (case k_is_row => k_is)
    (case a_are_rows => k_is)
    (case l_are_rows => k_is)
    (case c_are_rows => k_is)
    (case k_are_rows => k_is)
    (case a_Bands_init => k_is)
    (case i_Bands_init => k_is)
    (case l_Bands_init => k_is)
    (case c_Bands_init => k_is)
    (case k_Bands_init => k_is)
    (case d_Bands_init => k_is)
    (case a_Plan_rows => k_is)
    (case i_Plan_rows => k_is)
    (case l_Plan_rows => k_is)
    (case c_Plan_rows => k_is)
    (case k_Plan_rows => k_is)
    (case a_are_prices => k_is)
    (case l_are_prices => k_is)
    (case c_are_prices => k_is)
    (case k_are_prices => k_is)
    (case a_need_prices => k_is)
    (case l_need_prices => k_is)
    (case c_need_prices => k_is)
    (case k_need_prices => k_is)
    (case a_Tariff_init => k_is)
    (case i_Tariff_init => k_is)
    (case l_Tariff_init => k_is)
    (case c_Tariff_init => k_is)
    (case k_Tariff_init => k_is)
    (case a__law_time => k_is)
    (case l__law_time => k_is)
    (case c__law_time => k_is)
    (case k__law_time => k_is)
    (case a__law_account => k_is)
    (case l__law_account => k_is)
    (case c__law_account => k_is)
    (case k__law_account => k_is)
    (case a_Plan_longest => k_is)
    (case i_Plan_longest => k_is)
    (case l_Plan_longest => k_is)
    (case c_Plan_longest => k_is)
    (case k_Plan_longest => k_is)
    (case a_Plan_found => k_is)
    (case i_Plan_found => k_is)
    (case l_Plan_found => k_is)
    (case c_Plan_found => k_is)
    (case k_Plan_found => k_is)
    (case a_Tariff_prices_of => k_is)
    (case i_Tariff_prices_of => k_is)
    (case l_Tariff_prices_of => k_is)
    (case c_Tariff_prices_of => k_is)
    (case k_Tariff_prices_of => k_is)
    (case a_need_time => k_is)
    (case l_need_time => k_is)
    (case c_need_time => k_is)
    (case k_need_time => k_is)
    (case a_Bands_of_day => k_is)
    (case i_Bands_of_day => k_is)
    (case l_Bands_of_day => k_is)
    (case c_Bands_of_day => k_is)
    (case k_Bands_of_day => k_is)
    (case a_Bands_ahead_of => k_is)
    (case i_Bands_ahead_of => k_is)
    (case l_Bands_ahead_of => k_is)
    (case c_Bands_ahead_of => k_is)
    (case k_Bands_ahead_of => k_is)
    (case a_Bands_seconds => k_is)
    (case i_Bands_seconds => k_is)
    (case l_Bands_seconds => k_is)
    (case c_Bands_seconds => k_is)
    (case k_Bands_seconds => k_is)
    (case a_Bands_cost => k_is)
    (case i_Bands_cost => k_is)
    (case l_Bands_cost => k_is)
    (case c_Bands_cost => k_is)
    (case k_Bands_cost => k_is)
    (case a_Tariff_price => k_is)
    (case i_Tariff_price => k_is)
    (case l_Tariff_price => k_is)
    (case c_Tariff_price => k_is)
    (case k_Tariff_price => k_is)
    (case a_bill => k_is)
    (case l_bill => k_is)
    (case c_bill => k_is)
    (case k_bill => k_is)
    (case a_pays => k_is)
    (case l_pays => k_is)
    (case c_pays => k_is)
    (case k_pays => k_is)
    (case a__law_bill => k_is)
    (case l__law_bill => k_is)
    (case c__law_bill => k_is)
    (case k__law_bill => k_is)
    (case a__law_alike => k_is)
    (case l__law_alike => k_is)
    (case c__law_alike => k_is)
    (case k__law_alike => k_is)
    (case a__law_right => k_is)
    (case l__law_right => k_is)
    (case c__law_right => k_is)
    (case k__law_right => k_is)
    (case a_law => k_is)
    (case l_law => k_is)
    (case c_law => k_is)
    (case k_law => k_is)
    (case b_all => k_is)
    (case b_bool => k_is)
    (case b_dict => k_is)
    (case b_divmod => k_is)
    (case b_enumerate => k_is)
    (case b_int => k_is)
    (case b_isinstance => k_is)
    (case b_len => k_is)
    (case b_list => k_is)
    (case b_max => k_is)
    (case b_min => k_is)
    (case b_range => k_is)
    (case b_set => k_is)
    (case b_sorted => k_is)
    (case b_str => k_is)
    (case b_sum => k_is)
    (case b_tuple => k_is)
    (case b_zip => k_is)
    (case g_BANDS => k_is)
    (case g_DAY => k_is)
    (case g_FIGURES => k_is)
    (case g_LAST_TIME => k_is)
    (case g_MOST_FIGURES => k_is)
    (case g_MOST_PRICE => k_is)
    (case g_MOST_ROWS_bands => k_is)
    (case g_MOST_ROWS_plans => k_is)
    (case g_WEEK => k_is)
#print axioms PySem.Challenge.cw_wirehall_k84_bills_holds
