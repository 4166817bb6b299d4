import PyProof.Rows.All
import Wide.All
import OpenK.AllK
import Wide.FinOn
import HandS.ForMost
import HandS.TupAny
import HandS.TupMul
import HandS.Flow
import HandS.Style
import HandS.RaiseMore
import HandS.IsInst
import HandS.SortInts
import HandS.Wide
import HandS.Conv
import HandS.TupLe
import HandS.Exc
import HandS.WordsExc
import HandS.Zip
import HandS.SetFor
import KE.KDictPairs
import HandS.Strs
import KE.GoesMore
import HandS.Comp
import HandS.Codes
import HandS.Star
import PySem.Challenge.RW_booksdue_k38_whole_the_greatest_rule_bel
set_option Elab.async false
set_option linter.all false
set_option maxRecDepth 100000
/-! # Ev: an evaluator of one's own over the hand layer. Part A: values as trees, worlds, steps between worlds. -/
namespace Ev
open PySem PySem.Spec PyProof.Rows L2

/-- built-in types that are asked for -/
inductive T7 where
  | int | bool | str | tup | lst | dct | non
  deriving DecidableEq
def T7.name : T7 → String
  | .int => "int" | .bool => "bool" | .str => "str" | .tup => "tuple" | .lst => "list" | .dct => "dict" | .non => "NoneType"
/-- a value as a tree -/
inductive D where
  | non | bl (b : Bool) | int (i : Int) | str (s : Str)
  /-- a tuple; a list that never changes any more; a list that is locked or the program's own -/
  | tup (xs : List D) | lst (xs : List D) | rls (xs : List D)
  /-- a tuple that a walk hands out: only to be taken apart -/
  | wtp (xs : List D)
  | dct (ks : List Key) (vs : List D)
  /-- an instance that never changes any more: its class's name, its attributes -/
  | ins (c : Str) (ns : List Str) (vs : List D)
  /-- a class or a def of the program, by its name; a built-in type -/
  | glo (x : Str) | ty (t : T7)

/-- what stands at a handle -/
inductive O where
  | lst (xs : List D)
  /-- read, not written, while a loop walks it -/
  | lck (xs : List D)
  | dct (ks : List Key) (vs : List D)
  | ins (c : Str) (ns : List Str) (vs : List D)
  /-- a handle no more -/
  | frz (d : D)

def O.live : O → Bool
  | .frz _ => false
  | _ => true

/-- the world: the handles' addresses, what stands there, the heap -/
structure Wd where
  α : List Addr
  φ : List O
  H : Hp

def Live (w : Wd) (a : Addr) : Prop := ∃ (j : Nat) (o : O), w.α[j]? = some a ∧ w.φ[j]? = some o ∧ o.live = true
/-- what may yet change: the callers' (Ze), one's own -/
def Z (Ze : Addr → Prop) (w : Wd) (a : Addr) : Prop := Ze a ∨ Live w a

section
variable (K : PySem.W.Frag) (mg : Str → Option Value)
/-- a list that is known to stay -/
def RdL (H : Hp) (a : Addr) (xs : List V) : Prop :=
  (∃ o, H a = some (.frz o (.lst xs))) ∨
    ∃ (o : Obj) (its : Array Value) (n : Nat), K.lookup a = some o ∧ o.cls = .type "list" ∧ o.dict = none ∧ o.data = .seq its n ∧ its.size ≤ sizeLine ∧ Vals xs its.toList

/-- a tuple without attributes -/
def PlT (H : Hp) (a : Addr) (xs : List V) : Prop :=
  (∃ o, H a = some (.frz o (.tup xs)) ∧ o.cls = .type "tuple" ∧ o.dict = none) ∨
    ∃ (o : Obj) (its : Array Value) (n : Nat), K.lookup a = some o ∧ o.cls = .type "tuple" ∧ o.dict = none ∧ o.data = .seq its n ∧ its.size ≤ sizeLine ∧ Vals xs its.toList
mutual
inductive Rep (H : Hp) (Zp : Addr → Prop) : V → D → Prop
  | non : Rep H Zp .non .non
  | bl (b : Bool) : Rep H Zp (.bl b) (.bl b)
  | int (i : Int) : Rep H Zp (.int i) (.int i)
  | str (s : Str) : Rep H Zp (.str s) (.str s)
  | tup {a : Addr} {vs : List V} {ds : List D} : PlT K H a vs → Reps H Zp vs ds → Rep H Zp (.ref a) (.tup ds)
  | wtp {a : Addr} {vs : List V} {ds : List D} : SqT K H a vs → Reps H Zp vs ds → Rep H Zp (.ref a) (.wtp ds)
  | lst {a : Addr} {vs : List V} {ds : List D} : H a = some (.lst vs) → ¬ Zp a → Reps H Zp vs ds → Rep H Zp (.ref a) (.lst ds)
  | rls {a : Addr} {vs : List V} {ds : List D} : RdL K H a vs → Reps H Zp vs ds → Rep H Zp (.ref a) (.rls ds)
  | dct {a : Addr} {kvs : List (Key × V)} {ks : List Key} {ds : List D} : H a = some (.dK kvs) → ¬ Zp a → kvs.map (·.1) = ks → Reps H Zp (kvs.map (·.2)) ds → Rep H Zp (.ref a) (.dct ks ds)
  | ins {a C dx : Addr} {fs : List (Str × V)} {c : Str} {ns : List Str} {ds : List D} : H a = some (.ins C dx fs) → ¬ Zp a → mg c = some (.ref C) → fs.map (·.1) = ns → Reps H Zp (fs.map (·.2)) ds → Rep H Zp (.ref a) (.ins c ns ds)
  | glo {a : Addr} {x : Str} : mg x = some (.ref a) → Rep H Zp (.ref a) (.glo x)
  | ty (t : T7) : Rep H Zp (.ty t.name) (.ty t)
inductive Reps (H : Hp) (Zp : Addr → Prop) : List V → List D → Prop
  | nil : Reps H Zp [] []
  | cons {v : V} {d : D} {vs : List V} {ds : List D} : Rep H Zp v d → Reps H Zp vs ds → Reps H Zp (v :: vs) (d :: ds)
end

/-- what a handle's address bears -/
def RepO (H : Hp) (Zp : Addr → Prop) (a : Addr) : O → Prop
  | .lst ds => ∃ vs, H a = some (.lst vs) ∧ Reps K mg H Zp vs ds
  | .lck ds => ∃ vs, H a = some (.lst vs) ∧ Reps K mg H Zp vs ds
  | .dct ks ds => ∃ kvs, H a = some (.dK kvs) ∧ kvs.map (·.1) = ks ∧ Reps K mg H Zp (kvs.map (·.2)) ds
  | .ins c ns ds => ∃ C dx fs, H a = some (.ins C dx fs) ∧ mg c = some (.ref C) ∧ fs.map (·.1) = ns ∧ Reps K mg H Zp (fs.map (·.2)) ds
  | .frz d => Rep K mg H Zp (.ref a) d

structure Ok (Ze : Addr → Prop) (w : Wd) : Prop where
  len : w.α.length = w.φ.length
  nd : w.α.Nodup
  dom : ∀ a, Ze a → ∃ o, w.H a = some o
  adom : ∀ (j : Nat) a, w.α[j]? = some a → ∃ o, w.H a = some o
  out : ∀ (j : Nat) a, w.α[j]? = some a → ¬ Ze a
  store : ∀ (j : Nat) a o, w.α[j]? = some a → w.φ[j]? = some o → RepO K mg w.H (Z Ze w) a o

structure Step (w w' : Wd) : Prop where
  pre : ∃ β, w'.α = w.α ++ β ∧ ∀ b ∈ β, w.H b = none
  keep : ∀ b o, w.H b = some o → ¬ Live w b → w'.H b = some o
  live : ∀ b, Live w' b → Live w b ∨ w.H b = none
  lck : ∀ (j : Nat) ds, w.φ[j]? = some (.lck ds) → w'.φ[j]? = some (.lck ds)
  there : ∀ b o, w.H b = some o → ∃ o', w'.H b = some o'
/-- the next world -/
structure Nx (Ze : Addr → Prop) (w w' : Wd) : Prop where
  ok : Ok K mg Ze w'
  st : Step w w'
end

section
variable {K : PySem.W.Frag} {mg : Str → Option Value} {Ze : Addr → Prop} {w w' w'' : Wd} {H H' : Hp} {Zp Zq : Addr → Prop}
theorem Reps.length {vs : List V} {ds : List D} (h : Reps K mg H Zp vs ds) : vs.length = ds.length := by
  induction vs generalizing ds with
  | nil => cases h; rfl
  | cons v vs ih => cases h with | cons _ t => simp [ih t]
theorem Reps.get : ∀ {vs : List V} {ds : List D} {i : Nat} {d : D}, Reps K mg H Zp vs ds → ds[i]? = some d → ∃ v, vs[i]? = some v ∧ Rep K mg H Zp v d
  | _, _, _, _, .nil, e => by simp at e
  | _, _, 0, _, .cons r _, e => by simp at e; subst e; exact ⟨_, rfl, r⟩
  | _, _, i + 1, d, .cons _ t, e => by
    obtain ⟨v, h1, h2⟩ := Reps.get (i := i) (d := d) t (by simpa using e)
    exact ⟨v, by simpa using h1, h2⟩
theorem Reps.getV : ∀ {vs : List V} {ds : List D} {i : Nat} {v : V}, Reps K mg H Zp vs ds → vs[i]? = some v → ∃ d, ds[i]? = some d ∧ Rep K mg H Zp v d
  | _, _, _, _, .nil, e => by simp at e
  | _, _, 0, _, .cons r _, e => by simp at e; subst e; exact ⟨_, rfl, r⟩
  | _, _, i + 1, d, .cons _ t, e => by
    obtain ⟨v, h1, h2⟩ := Reps.getV (i := i) (v := d) t (by simpa using e)
    exact ⟨v, by simpa using h1, h2⟩
theorem Reps.append : ∀ {vs us : List V} {ds es : List D}, Reps K mg H Zp vs ds → Reps K mg H Zp us es → Reps K mg H Zp (vs ++ us) (ds ++ es)
  | _, _, _, _, .nil, s => s
  | _, _, _, _, .cons r t, s => .cons r (Reps.append t s)
theorem Reps.set {v : V} {d : D} (r : Rep K mg H Zp v d) : ∀ {vs : List V} {ds : List D} (i : Nat), Reps K mg H Zp vs ds → Reps K mg H Zp (vs.set i v) (ds.set i d)
  | _, _, _, .nil => .nil
  | _, _, 0, .cons _ t => .cons r t
  | _, _, i + 1, .cons q t => .cons q (Reps.set r i t)
theorem Reps.take : ∀ {vs : List V} {ds : List D} (n : Nat), Reps K mg H Zp vs ds → Reps K mg H Zp (vs.take n) (ds.take n)
  | _, _, 0, _ => .nil
  | _, _, _ + 1, .nil => .nil
  | _, _, n + 1, .cons r t => .cons r (Reps.take n t)
theorem Reps.drop : ∀ {vs : List V} {ds : List D} (n : Nat), Reps K mg H Zp vs ds → Reps K mg H Zp (vs.drop n) (ds.drop n)
  | _, _, 0, r => r
  | _, _, _ + 1, .nil => .nil
  | _, _, n + 1, .cons _ t => Reps.drop n t
theorem Reps.rev {vs : List V} {ds : List D} (h : Reps K mg H Zp vs ds) : Reps K mg H Zp vs.reverse ds.reverse := by
  induction vs generalizing ds with
  | nil => cases h; exact .nil
  | cons v vs ih => cases h with | cons r t => simpa using (ih t).append (.cons r .nil)
theorem Reps.eraseIdx : ∀ {vs : List V} {ds : List D} (n : Nat), Reps K mg H Zp vs ds → Reps K mg H Zp (vs.eraseIdx n) (ds.eraseIdx n)
  | _, _, _, .nil => .nil
  | _, _, 0, .cons _ t => t
  | _, _, n + 1, .cons r t => .cons r (Reps.eraseIdx n t)
theorem Reps.rep {v : V} {d : D} (r : Rep K mg H Zp v d) : ∀ n, Reps K mg H Zp (List.replicate n v) (List.replicate n d)
  | 0 => .nil
  | n + 1 => .cons r (Reps.rep r n)
theorem Reps.reps {vs : List V} {ds : List D} (r : Reps K mg H Zp vs ds) : ∀ n, Reps K mg H Zp (List.replicate n vs).flatten (List.replicate n ds).flatten
  | 0 => .nil
  | n + 1 => by
    rw [List.replicate_succ, List.replicate_succ, List.flatten_cons, List.flatten_cons]
    exact r.append (Reps.reps r n)

/-! ### what a tree leans on stays -/
/-- lists, dicts, instances out of the zone are kept, tuples and locked lists too -/
structure Keeps (H H' : Hp) (Zp Zq : Addr → Prop) : Prop where
  fix : ∀ a o, H a = some o → ¬ Zp a → H' a = some o
  tup : ∀ a xs, H a = some (.tup xs) → H' a = some (.tup xs)
  frz : ∀ a o u, H a = some (.frz o u) → H' a = some (.frz o u)
  zone : ∀ a o, H a = some o → ¬ Zp a → ¬ Zq a
theorem Keeps.sqT (k : Keeps H H' Zp Zq) {a : Addr} {xs : List V} (h : SqT K H a xs) : SqT K H' a xs := by
  rcases h with (h | ⟨o, h⟩) | h
  · exact .inl (.inl (k.tup _ _ h))
  · exact .inl (.inr ⟨o, k.frz _ _ _ h⟩)
  · exact .inr h
theorem Keeps.rdL (k : Keeps H H' Zp Zq) {a : Addr} {xs : List V} (h : RdL K H a xs) : RdL K H' a xs := by
  rcases h with ⟨o, h⟩ | h
  · exact .inl ⟨o, k.frz _ _ _ h⟩
  · exact .inr h
theorem PlT.sqT {a : Addr} {xs : List V} (h : PlT K H a xs) : SqT K H a xs := by
  rcases h with ⟨o, h, _⟩ | ⟨o, its, n, h1, h2, h3, h4, h5, h6⟩
  · exact .inl (.inr ⟨o, h⟩)
  · exact .inr ⟨o, its, n, h1, h2, h4, h5, h6⟩
theorem Keeps.pt (k : Keeps H H' Zp Zq) {a : Addr} {xs : List V} (h : PlT K H a xs) : PlT K H' a xs := by
  rcases h with ⟨o, h, q⟩ | h
  · exact .inl ⟨o, k.frz _ _ _ h, q⟩
  · exact .inr h
mutual
theorem Rep.keeps (k : Keeps H H' Zp Zq) : ∀ {v : V} {d : D}, Rep K mg H Zp v d → Rep K mg H' Zq v d
  | _, _, .non => .non
  | _, _, .bl b => .bl b
  | _, _, .int i => .int i
  | _, _, .str s => .str s
  | _, _, .tup h r => .tup (k.pt h) (Reps.keeps k r)
  | _, _, .wtp h r => .wtp (k.sqT h) (Reps.keeps k r)
  | _, _, .lst h z r => .lst (k.fix _ _ h z) (k.zone _ _ h z) (Reps.keeps k r)
  | _, _, .rls h r => .rls (k.rdL h) (Reps.keeps k r)
  | _, _, .dct h z e r => .dct (k.fix _ _ h z) (k.zone _ _ h z) e (Reps.keeps k r)
  | _, _, .ins h z c e r => .ins (k.fix _ _ h z) (k.zone _ _ h z) c e (Reps.keeps k r)
  | _, _, .glo h => .glo h
  | _, _, .ty t => .ty t
theorem Reps.keeps (k : Keeps H H' Zp Zq) : ∀ {vs : List V} {ds : List D}, Reps K mg H Zp vs ds → Reps K mg H' Zq vs ds
  | _, _, .nil => .nil
  | _, _, .cons r t => .cons (Rep.keeps k r) (Reps.keeps k t)
end
/-- a smaller zone -/
theorem Keeps.zoneLe (h : ∀ a, Zq a → Zp a) : Keeps H H Zp Zq := ⟨fun _ _ e _ => e, fun _ _ e => e, fun _ _ _ e => e, fun a _ _ n z => n (h a z)⟩
/-- the heap grows -/
def Ext (H H' : Hp) : Prop := ∀ a o, H a = some o → H' a = some o
theorem Ext.refl : Ext H H := fun _ _ e => e
theorem Ext.trans {H'' : Hp} (a : Ext H H') (b : Ext H' H'') : Ext H H'' := fun x o e => b x o (a x o e)
theorem Ext.upd {p : Addr} {o : HO} (n : H p = none) : Ext H (upd H p o) := fun a x e => by
  rw [upd_ne (ne_of_none e n)]; exact e
theorem Ext.keeps (e : Ext H H') : Keeps H H' Zp Zp := ⟨fun a o h _ => e a o h, fun a _ h => e a _ h, fun a _ _ h => e a _ h, fun _ _ _ n => n⟩
theorem Ext.sqT (e : Ext H H') {a : Addr} {xs : List V} (h : SqT K H a xs) : SqT K H' a xs := (e.keeps (Zp := fun _ => False)).sqT h
theorem Ext.sqL (e : Ext H H') {a : Addr} {xs : List V} (h : SqL K H a xs) : SqL K H' a xs := by
  rcases h with (h | ⟨o, h⟩) | h
  · exact .inl (.inl (e _ _ h))
  · exact .inl (.inr ⟨o, e _ _ h⟩)
  · exact .inr h
theorem RepO.keepsL (k : Keeps H H' Zp Zq) {a : Addr} {o : O} (h : RepO K mg H Zp a o) (live : o.live = true → ∀ u, H a = some u → H' a = some u) : RepO K mg H' Zq a o := by
  cases o with
  | lst ds => obtain ⟨vs, e, r⟩ := h; exact ⟨vs, live rfl _ e, r.keeps k⟩
  | lck ds => obtain ⟨vs, e, r⟩ := h; exact ⟨vs, live rfl _ e, r.keeps k⟩
  | dct ks ds => obtain ⟨kvs, e, q, r⟩ := h; exact ⟨kvs, live rfl _ e, q, r.keeps k⟩
  | ins c ns ds => obtain ⟨C, dx, fs, e, c, q, r⟩ := h; exact ⟨C, dx, fs, live rfl _ e, c, q, r.keeps k⟩
  | frz d => exact Rep.keeps k h

/-- what a live handle bears is no tuple, no locked thing -/
theorem RepO.notTup {a : Addr} {o : O} (h : RepO K mg H Zp a o) (hl : o.live = true) : (∀ xs, H a ≠ some (.tup xs)) ∧ ∀ x u, H a ≠ some (.frz x u) := by
  cases o with
  | lst ds => obtain ⟨vs, e, r⟩ := h; rw [e]; exact ⟨fun _ z => (by cases z), fun _ _ z => (by cases z)⟩
  | lck ds => obtain ⟨vs, e, r⟩ := h; rw [e]; exact ⟨fun _ z => (by cases z), fun _ _ z => (by cases z)⟩
  | dct ks ds => obtain ⟨kvs, e, q, r⟩ := h; rw [e]; exact ⟨fun _ z => (by cases z), fun _ _ z => (by cases z)⟩
  | ins c ns ds => obtain ⟨C, dx, fs, e, c, q, r⟩ := h; rw [e]; exact ⟨fun _ z => (by cases z), fun _ _ z => (by cases z)⟩
  | frz d => cases hl
theorem Ok.liveNot (ok : Ok K mg Ze w) {a : Addr} (l : Live w a) : (∀ xs, w.H a ≠ some (.tup xs)) ∧ ∀ x u, w.H a ≠ some (.frz x u) := by
  obtain ⟨j, o, e1, e2, hl⟩ := l
  exact (ok.store j a o e1 e2).notTup hl
theorem Step.keeps (ok : Ok K mg Ze w) (st : Step w w') : Keeps w.H w'.H (Z Ze w) (Z Ze w') where
  fix := fun a o e n => st.keep a o e fun l => n (.inr l)
  tup := fun a xs e => st.keep a _ e fun l => (ok.liveNot l).1 xs e
  frz := fun a x u e => st.keep a _ e fun l => (ok.liveNot l).2 x u e
  zone := fun a o e n z => by
    rcases z with z | z
    · exact n (.inl z)
    · rcases st.live a z with z | z
      · exact n (.inr z)
      · rw [e] at z; cases z
theorem Step.refl : Step w w := ⟨⟨[], by simp, fun _ h => nomatch h⟩, fun _ _ e _ => e, fun _ l => .inl l, fun _ _ e => e, fun _ o e => ⟨o, e⟩⟩
theorem Step.noneBack (a : Step w w') {x : Addr} (e : w'.H x = none) : w.H x = none := by
  cases q : w.H x with
  | none => rfl
  | some o => obtain ⟨o', h⟩ := a.there x o q; rw [e] at h; cases h
theorem Step.trans (a : Step w w') (b : Step w' w'') : Step w w'' where
  pre := by
    obtain ⟨β, e, n⟩ := a.pre
    obtain ⟨γ, e', n'⟩ := b.pre
    refine ⟨β ++ γ, by rw [e', e, List.append_assoc], fun x hx => ?_⟩
    rcases List.mem_append.mp hx with hx | hx
    · exact n x hx
    · exact a.noneBack (n' x hx)
  keep := fun x o e l => by
    refine b.keep x o (a.keep x o e l) fun l' => ?_
    rcases a.live x l' with z | z
    · exact l z
    · rw [e] at z; cases z
  live := fun x l => by
    rcases b.live x l with l | l
    · exact a.live x l
    · exact .inr (a.noneBack l)
  lck := fun j ds e => b.lck j ds (a.lck j ds e)
  there := fun x o e => by
    obtain ⟨o', h⟩ := a.there x o e
    exact b.there x o' h
theorem Nx.trans (a : Nx K mg Ze w w') (b : Nx K mg Ze w' w'') : Nx K mg Ze w w'' := ⟨b.ok, a.st.trans b.st⟩
theorem Nx.refl (o : Ok K mg Ze w) : Nx K mg Ze w w := ⟨o, .refl⟩
/-- the heap grows, no handle changes -/
theorem Nx.ext {α : List Addr} {φ : List O} (ok : Ok K mg Ze ⟨α, φ, H⟩) (e : Ext H H') : Nx K mg Ze ⟨α, φ, H⟩ ⟨α, φ, H'⟩ where
  ok := ⟨ok.len, ok.nd, fun a z => let ⟨o, h⟩ := ok.dom a z; ⟨o, e a o h⟩, fun j a h => let ⟨o, h⟩ := ok.adom j a h; ⟨o, e a o h⟩, ok.out, fun j a o h1 h2 =>
    (ok.store j a o h1 h2).keepsL (Ext.keeps e) fun _ u h => e _ u h⟩
  st := ⟨⟨[], by simp, fun _ h => nomatch h⟩, fun a o h _ => e a o h, fun _ l => .inl l, fun _ _ h => h, fun a o h => ⟨o, e a o h⟩⟩
end
end Ev
/-! Part B: results, slots, what is wanted behind a run. -/
namespace Ev
open PySem PySem.Spec PyProof.Rows L2

abbrev SS := List (Option V)
/-- a value or a handle -/
inductive X1 where
  | v (d : D) | h (j : Nat)
/-- a slot -/
inductive Sl where
  | u | v (d : D) | h (j : Nat)
def X1.sl : X1 → Sl
  | .v d => .v d
  | .h j => .h j
/-- what a run comes to: nothing is said, a value, an exception of a class with a value -/
inductive R (β : Type) where
  | bad | ok (b : β) (φ : List O) | exc (c : Str) (d : D) (φ : List O)
/-- a mark: what stands here is not looked into -/
abbrev Bt {α : Type} (_ : α) : Type := Unit
def R.bind {β γ : Type} (r : R β) (f : β → List O → R γ) (_t : Bt f := Unit.unit) : R γ := match r with
  | .bad => .bad
  | .ok b φ => f b φ
  | .exc c d φ => .exc c d φ
@[simp] theorem R.bind_bad {β γ : Type} (f : β → List O → R γ) : R.bind .bad f = .bad := rfl
@[simp] theorem R.bind_ok {β γ : Type} (b : β) (φ : List O) (f : β → List O → R γ) : R.bind (.ok b φ) f = f b φ := rfl
@[simp] theorem R.bind_exc {β γ : Type} (c : Str) (d : D) (φ : List O) (f : β → List O → R γ) : R.bind (.exc c d φ) f = .exc c d φ := rfl
def R.ofOpt {β : Type} (φ : List O) : Option β → R β
  | some b => .ok b φ
  | none => .bad
@[simp] theorem R.ofOpt_some {β : Type} (φ : List O) (b : β) : R.ofOpt φ (some b) = .ok b φ := rfl
@[simp] theorem R.ofOpt_none {β : Type} (φ : List O) : R.ofOpt φ (none : Option β) = .bad := rfl

abbrev Ev0 := List Sl → List O → R X1
abbrev Ev1 := List Sl → List O → R (List X1)
abbrev EvT := List Sl → List O → R Bool

section
variable (K : PySem.W.Frag) (mg : Str → Option Value) (Ze : Addr → Prop)
/-- an exception of the class named c that bears d -/
def ExcAt (w : Wd) (cls : Value) (a : Option Addr) (c : Str) (d : D) : Prop :=
  ∃ C ad v, mg c = some (.ref C) ∧ cls = .ref C ∧ a = some ad ∧ w.H ad = some (.xd [("value", v)]) ∧ Rep K mg w.H (Z Ze w) v d
/-- what is wanted behind a run that comes to r -/
def post {β : Type} (E : XK) (r : R β) (w : Wd) (k : β → Wd → Prop) : Prop :=
  match r with
  | .bad => False
  | .ok b φ' => ∀ w', w'.φ = φ' → Nx K mg Ze w w' → k b w'
  | .exc c d φ' => ∀ w' cls a, w'.φ = φ' → Nx K mg Ze w w' → ExcAt K mg Ze w' cls a c d → E cls a w'.H
def RepX (w : Wd) (v : V) : X1 → Prop
  | .v d => Rep K mg w.H (Z Ze w) v d
  | .h j => ∃ a, w.α[j]? = some a ∧ v = .ref a
inductive RepXs (w : Wd) : List V → List X1 → Prop
  | nil : RepXs w [] []
  | cons {v : V} {x : X1} {vs : List V} {xs : List X1} : RepX K mg Ze w v x → RepXs w vs xs → RepXs w (v :: vs) (x :: xs)
def RepS1 (w : Wd) (o : Option (Option V)) : Sl → Prop
  | .u => True
  | .v d => ∃ v, o = some (some v) ∧ Rep K mg w.H (Z Ze w) v d
  | .h j => ∃ a, w.α[j]? = some a ∧ o = some (some (.ref a))
structure RepS (w : Wd) (σ : SS) (ρ : List Sl) : Prop where
  len : σ.length = ρ.length
  at' : ∀ (i : Nat) s, ρ[i]? = some s → RepS1 K mg Ze w σ[i]? s
end

section
variable {K : PySem.W.Frag} {mg : Str → Option Value} {Ze : Addr → Prop} {w w' w'' : Wd} {E : XK} {σ : SS} {ρ : List Sl} {v : V} {x : X1}

theorem RepX.nx (ok : Ok K mg Ze w) (n : Step w w') (h : RepX K mg Ze w v x) : RepX K mg Ze w' v x := by
  cases x with
  | v d => exact Rep.keeps (n.keeps ok) h
  | h j =>
    obtain ⟨a, e, q⟩ := h
    obtain ⟨β, eβ, _⟩ := n.pre
    exact ⟨a, by rw [eβ, List.getElem?_append_left (List.getElem?_eq_some_iff.mp e).1]; exact e, q⟩
theorem RepXs.nx (ok : Ok K mg Ze w) (n : Step w w') {vs : List V} {xs : List X1} (h : RepXs K mg Ze w vs xs) : RepXs K mg Ze w' vs xs := by
  induction h with
  | nil => exact .nil
  | cons r _ ih => exact .cons (r.nx ok n) ih
theorem RepXs.length {vs : List V} {xs : List X1} (h : RepXs K mg Ze w vs xs) : vs.length = xs.length := by
  induction h with
  | nil => rfl
  | cons _ _ ih => simp [ih]
theorem RepS1.nx (ok : Ok K mg Ze w) (n : Step w w') {o : Option (Option V)} {s : Sl} (h : RepS1 K mg Ze w o s) : RepS1 K mg Ze w' o s := by
  cases s with
  | u => trivial
  | v d => obtain ⟨v, e, r⟩ := h; exact ⟨v, e, Rep.keeps (n.keeps ok) r⟩
  | h j =>
    obtain ⟨a, e, q⟩ := h
    obtain ⟨β, eβ, _⟩ := n.pre
    exact ⟨a, by rw [eβ, List.getElem?_append_left (List.getElem?_eq_some_iff.mp e).1]; exact e, q⟩
theorem RepS.nx (ok : Ok K mg Ze w) (n : Step w w') (h : RepS K mg Ze w σ ρ) : RepS K mg Ze w' σ ρ := ⟨h.len, fun i s e => (h.at' i s e).nx ok n⟩
theorem RepS.set (h : RepS K mg Ze w σ ρ) (i : Nat) (r : RepX K mg Ze w v x) : RepS K mg Ze w (σ.set i (some v)) (ρ.set i x.sl) := by
  refine ⟨by simp [h.len], fun j s e => ?_⟩
  by_cases hj : j = i
  · subst hj
    by_cases hl : j < ρ.length
    · rw [List.getElem?_set_self hl] at e
      cases e
      have e2 : (σ.set j (some v))[j]? = some (some v) := List.getElem?_set_self (by rw [h.len]; exact hl)
      cases x with
      | v d => exact ⟨v, e2, r⟩
      | h k => obtain ⟨a, e, q⟩ := r; subst q; exact ⟨a, e, e2⟩
    · rw [List.getElem?_eq_none (by simpa using hl)] at e; cases e
  · rw [List.getElem?_set_ne (Ne.symm hj)] at e
    rw [List.getElem?_set_ne (Ne.symm hj)]
    exact h.at' j s e
theorem RepS.get (h : RepS K mg Ze w σ ρ) {i : Nat} {x : X1} (e : ρ[i]? = some x.sl) : ∃ v, σ[i]? = some (some v) ∧ RepX K mg Ze w v x := by
  have q := h.at' i _ e
  cases x with
  | v d => exact q
  | h j => obtain ⟨a, e, q⟩ := q; exact ⟨_, q, a, e, rfl⟩
/-- forgetting a slot -/
theorem RepS.wipe1 (h : RepS K mg Ze w σ ρ) (i : Nat) : RepS K mg Ze w (σ.set i none) (ρ.set i .u) := by
  refine ⟨by simp [h.len], fun j s e => ?_⟩
  by_cases hj : j = i
  · subst hj
    by_cases hl : j < ρ.length
    · rw [List.getElem?_set_self hl] at e; cases e; trivial
    · rw [List.getElem?_eq_none (by simpa using hl)] at e; cases e
  · rw [List.getElem?_set_ne (Ne.symm hj)] at e
    rw [List.getElem?_set_ne (Ne.symm hj)]
    exact h.at' j s e

/-! ### post -/
theorem post.mono {β : Type} {r : R β} {k k' : β → Wd → Prop} {E' : XK} (h : post K mg Ze E r w k) (hk : ∀ b w', Nx K mg Ze w w' → k b w' → k' b w') (hE : ∀ c a H, E c a H → E' c a H) : post K mg Ze E' r w k' := by
  cases r with
  | bad => exact h
  | ok b φ => exact fun w' e n => hk b w' n (h w' e n)
  | exc c d φ => exact fun w' cls a e n q => hE _ _ _ (h w' cls a e n q)
theorem post.imp {β : Type} {r : R β} {k k' : β → Wd → Prop} (h : post K mg Ze E r w k) (hk : ∀ b w', Nx K mg Ze w w' → k b w' → k' b w') : post K mg Ze E r w k' := h.mono hk fun _ _ _ e => e
/-- a run behind another one -/
theorem post.bind {β γ : Type} {r : R β} {f : β → List O → R γ} {k : γ → Wd → Prop} (h : post K mg Ze E (r.bind f) w k) : post K mg Ze E r w (fun b w' => post K mg Ze E (f b w'.φ) w' k) := by
  cases r with
  | bad => exact h
  | exc c d φ => exact h
  | ok b φ =>
    intro w' e n
    subst e
    change post K mg Ze E (f b w'.φ) w k at h
    show post K mg Ze E (f b w'.φ) w' k
    revert h
    cases f b w'.φ with
    | bad => exact fun h => h
    | ok c φ2 => exact fun h w2 e2 n2 => h w2 e2 (n.trans n2)
    | exc c d φ2 => exact fun h w2 cls a e2 n2 q => h w2 cls a e2 (n.trans n2) q
/-- a run that says something from a later world -/
theorem post.later {β : Type} {r : R β} {k : β → Wd → Prop} (n : Nx K mg Ze w w') (h : post K mg Ze E r w k) : post K mg Ze E r w' k := by
  cases r with
  | bad => exact h
  | ok c φ2 => exact fun w2 e2 n2 => h w2 e2 (n.trans n2)
  | exc c d φ2 => exact fun w2 cls a e2 n2 q => h w2 cls a e2 (n.trans n2) q
theorem post.here {β : Type} {b : β} {k : β → Wd → Prop} (ok : Ok K mg Ze w) (h : post K mg Ze E (.ok b w.φ) w k) : k b w := h w rfl (.refl ok)
theorem post.opt {β : Type} {o : Option β} {k : β → Wd → Prop} (ok : Ok K mg Ze w) (h : post K mg Ze E (R.ofOpt w.φ o) w k) : ∃ b, o = some b ∧ k b w := by
  cases o with
  | none => exact h.elim
  | some b => exact ⟨b, rfl, post.here ok h⟩

/-! ### reading what a handle bears -/
def peek (φ : List O) : X1 → Option D
  | .v d => some d
  | .h j => match φ[j]? with
    | some (.lst ds) => some (.lst ds)
    | some (.lck ds) => some (.lst ds)
    | some (.dct ks ds) => some (.dct ks ds)
    | some (.ins c ns ds) => some (.ins c ns ds)
    | some (.frz d) => some d
    | none => none
@[simp] theorem peek_v (φ : List O) (d : D) : peek φ (.v d) = some d := rfl
/-- a tree that may change yet at its top -/
inductive RepB (K : PySem.W.Frag) (mg : Str → Option Value) (H : Hp) (Zp : Addr → Prop) : V → D → Prop
  | full {v : V} {d : D} : Rep K mg H Zp v d → RepB K mg H Zp v d
  | lst {a : Addr} {vs : List V} {ds : List D} : H a = some (.lst vs) → Reps K mg H Zp vs ds → RepB K mg H Zp (.ref a) (.lst ds)
  | dct {a : Addr} {kvs : List (Key × V)} {ks : List Key} {ds : List D} : H a = some (.dK kvs) → kvs.map (·.1) = ks → Reps K mg H Zp (kvs.map (·.2)) ds → RepB K mg H Zp (.ref a) (.dct ks ds)
  | ins {a C dx : Addr} {fs : List (Str × V)} {c : Str} {ns : List Str} {ds : List D} : H a = some (.ins C dx fs) → mg c = some (.ref C) → fs.map (·.1) = ns → Reps K mg H Zp (fs.map (·.2)) ds → RepB K mg H Zp (.ref a) (.ins c ns ds)
theorem peek_rep (ok : Ok K mg Ze w) {d : D} (r : RepX K mg Ze w v x) (e : peek w.φ x = some d) : RepB K mg w.H (Z Ze w) v d := by
  cases x with
  | v d' => cases e; exact .full r
  | h j =>
    obtain ⟨a, ea, rfl⟩ := r
    simp only [peek] at e
    cases q : w.φ[j]? with
    | none => rw [q] at e; cases e
    | some o =>
      rw [q] at e
      have s := ok.store j a o ea q
      cases o with
      | lst ds => cases e; obtain ⟨vs, h1, h2⟩ := s; exact .lst h1 h2
      | lck ds => cases e; obtain ⟨vs, h1, h2⟩ := s; exact .lst h1 h2
      | dct ks ds => cases e; obtain ⟨kvs, h1, h2, h3⟩ := s; exact .dct h1 h2 h3
      | ins c ns ds => cases e; obtain ⟨C, dx, fs, h1, h2, h3, h4⟩ := s; exact .ins h1 h2 h3 h4
      | frz d' => cases e; exact .full s
variable {H : Hp} {Zp : Addr → Prop}
theorem RepB.int {i : Int} (r : RepB K mg H Zp v (.int i)) : v = .int i := by cases r with | full r => cases r; rfl
theorem RepB.bl {b : Bool} (r : RepB K mg H Zp v (.bl b)) : v = .bl b := by cases r with | full r => cases r; rfl
theorem RepB.str {s : Str} (r : RepB K mg H Zp v (.str s)) : v = .str s := by cases r with | full r => cases r; rfl
theorem RepB.non (r : RepB K mg H Zp v .non) : v = .non := by cases r with | full r => cases r; rfl
theorem RepB.ty {t : T7} (r : RepB K mg H Zp v (.ty t)) : v = .ty t.name := by cases r with | full r => cases r; rfl
theorem RepB.glo {x : Str} (r : RepB K mg H Zp v (.glo x)) : ∃ a, v = .ref a ∧ mg x = some (.ref a) := by cases r with | full r => cases r with | glo h => exact ⟨_, rfl, h⟩
theorem RepB.tupP {ds : List D} (r : RepB K mg H Zp v (.tup ds)) : ∃ a vs, v = .ref a ∧ PlT K H a vs ∧ Reps K mg H Zp vs ds := by cases r with | full r => cases r with | tup h q => exact ⟨_, _, rfl, h, q⟩
theorem RepB.tupI {ds : List D} (r : RepB K mg H Zp v (.tup ds)) : ∃ a vs, v = .ref a ∧ SqT K H a vs ∧ Reps K mg H Zp vs ds := by obtain ⟨a, vs, e, h, q⟩ := r.tupP; exact ⟨a, vs, e, h.sqT, q⟩
theorem RepB.lstI {ds : List D} (r : RepB K mg H Zp v (.lst ds)) : ∃ a vs, v = .ref a ∧ H a = some (.lst vs) ∧ Reps K mg H Zp vs ds := by
  cases r with
  | full r => cases r with | lst h z q => exact ⟨_, _, rfl, h, q⟩
  | lst h q => exact ⟨_, _, rfl, h, q⟩
theorem RdL.sqL {a : Addr} {vs : List V} (h : RdL K H a vs) : SqL K H a vs := by
  rcases h with ⟨o, h⟩ | h
  · exact .inl (.inr ⟨o, h⟩)
  · exact .inr h
theorem RepB.rlsI {ds : List D} (r : RepB K mg H Zp v (.rls ds)) : ∃ a vs, v = .ref a ∧ RdL K H a vs ∧ Reps K mg H Zp vs ds := by cases r with | full r => cases r with | rls h q => exact ⟨_, _, rfl, h, q⟩
theorem RepB.dctI {ks : List Key} {ds : List D} (r : RepB K mg H Zp v (.dct ks ds)) : ∃ a kvs, v = .ref a ∧ H a = some (.dK kvs) ∧ kvs.map (·.1) = ks ∧ Reps K mg H Zp (kvs.map (·.2)) ds := by
  cases r with
  | full r => cases r with | dct h z e q => exact ⟨_, _, rfl, h, e, q⟩
  | dct h e q => exact ⟨_, _, rfl, h, e, q⟩
theorem RepB.insI {c : Str} {ns : List Str} {ds : List D} (r : RepB K mg H Zp v (.ins c ns ds)) : ∃ a C dx fs, v = .ref a ∧ H a = some (.ins C dx fs) ∧ mg c = some (.ref C) ∧ fs.map (·.1) = ns ∧ Reps K mg H Zp (fs.map (·.2)) ds := by
  cases r with
  | full r => cases r with | ins h z c e q => exact ⟨_, _, _, _, rfl, h, c, e, q⟩
  | ins h c e q => exact ⟨_, _, _, _, rfl, h, c, e, q⟩
/-- the items of a list or tuple -/
def D.items : D → Option (List D)
  | .tup xs => some xs
  | .lst xs => some xs
  | .rls xs => some xs
  | _ => none
theorem RepB.seq {d : D} {ds : List D} (r : RepB K mg H Zp v d) (e : d.items = some ds) : ∃ a vs, v = .ref a ∧ (SqL K H a vs ∨ SqT K H a vs) ∧ Reps K mg H Zp vs ds := by
  cases d with
  | tup xs => cases e; obtain ⟨a, vs, h1, h2, h3⟩ := r.tupI; exact ⟨a, vs, h1, .inr h2, h3⟩
  | lst xs => cases e; obtain ⟨a, vs, h1, h2, h3⟩ := r.lstI; exact ⟨a, vs, h1, .inl (SqL.of h2), h3⟩
  | rls xs => cases e; obtain ⟨a, vs, h1, h2, h3⟩ := r.rlsI; exact ⟨a, vs, h1, .inl h2.sqL, h3⟩
  | _ => cases e
theorem Reps.ints : ∀ {vs : List V} {ns : List Int}, Reps K mg H Zp vs (ns.map D.int) → vs = ns.map V.int
  | _, [], h => by cases h; rfl
  | _, n :: ns, h => by
    cases h with
    | cons r t => cases r; rw [Reps.ints t]; rfl
theorem Reps.strs : ∀ {vs : List V} {ns : List Str}, Reps K mg H Zp vs (ns.map D.str) → vs = ns.map V.str
  | _, [], h => by cases h; rfl
  | _, n :: ns, h => by
    cases h with
    | cons r t => cases r; rw [Reps.strs t]; rfl
theorem Reps.bls : ∀ {vs : List V} {ns : List Bool}, Reps K mg H Zp vs (ns.map D.bl) → vs = ns.map V.bl
  | _, [], h => by cases h; rfl
  | _, n :: ns, h => by
    cases h with
    | cons r t => cases r; rw [Reps.bls t]; rfl
/-- all ints, all bools, all texts -/
def D.allInts : List D → Option (List Int)
  | [] => some []
  | .int i :: r => (D.allInts r).map (i :: ·)
  | _ => none
def D.allBls : List D → Option (List Bool)
  | [] => some []
  | .bl b :: r => (D.allBls r).map (b :: ·)
  | _ => none
def D.allStrs : List D → Option (List Str)
  | [] => some []
  | .str b :: r => (D.allStrs r).map (b :: ·)
  | _ => none
theorem D.allInts_eq : ∀ {ds : List D} {ns : List Int}, D.allInts ds = some ns → ds = ns.map D.int
  | [], _, h => by cases h; rfl
  | .int i :: r, ns, h => by
    unfold D.allInts at h
    cases q : D.allInts r with
    | none => rw [q] at h; cases h
    | some ms => rw [q] at h; cases h; rw [D.allInts_eq q]; rfl
  | .non :: _, _, h | .bl _ :: _, _, h | .str _ :: _, _, h | .tup _ :: _, _, h | .wtp _ :: _, _, h | .lst _ :: _, _, h | .rls _ :: _, _, h | .dct _ _ :: _, _, h | .ins _ _ _ :: _, _, h | .glo _ :: _, _, h | .ty _ :: _, _, h => by cases h
theorem D.allBls_eq : ∀ {ds : List D} {ns : List Bool}, D.allBls ds = some ns → ds = ns.map D.bl
  | [], _, h => by cases h; rfl
  | .bl i :: r, ns, h => by
    unfold D.allBls at h
    cases q : D.allBls r with
    | none => rw [q] at h; cases h
    | some ms => rw [q] at h; cases h; rw [D.allBls_eq q]; rfl
  | .non :: _, _, h | .int _ :: _, _, h | .str _ :: _, _, h | .tup _ :: _, _, h | .wtp _ :: _, _, h | .lst _ :: _, _, h | .rls _ :: _, _, h | .dct _ _ :: _, _, h | .ins _ _ _ :: _, _, h | .glo _ :: _, _, h | .ty _ :: _, _, h => by cases h
theorem D.allStrs_eq : ∀ {ds : List D} {ns : List Str}, D.allStrs ds = some ns → ds = ns.map D.str
  | [], _, h => by cases h; rfl
  | .str i :: r, ns, h => by
    unfold D.allStrs at h
    cases q : D.allStrs r with
    | none => rw [q] at h; cases h
    | some ms => rw [q] at h; cases h; rw [D.allStrs_eq q]; rfl
  | .non :: _, _, h | .int _ :: _, _, h | .bl _ :: _, _, h | .tup _ :: _, _, h | .wtp _ :: _, _, h | .lst _ :: _, _, h | .rls _ :: _, _, h | .dct _ _ :: _, _, h | .ins _ _ _ :: _, _, h | .glo _ :: _, _, h | .ty _ :: _, _, h => by cases h
@[simp] theorem D.allInts_map (ns : List Int) : D.allInts (ns.map D.int) = some ns := by
  induction ns with
  | nil => rfl
  | cons n ns ih => simp [D.allInts, ih]
@[simp] theorem D.allBls_map (ns : List Bool) : D.allBls (ns.map D.bl) = some ns := by
  induction ns with
  | nil => rfl
  | cons n ns ih => simp [D.allBls, ih]
@[simp] theorem D.allStrs_map (ns : List Str) : D.allStrs (ns.map D.str) = some ns := by
  induction ns with
  | nil => rfl
  | cons n ns ih => simp [D.allStrs, ih]
end
end Ev
/-! Part C: operators on trees, and that the layer's readings of them hold. -/
namespace Ev
open PySem PySem.Spec PyProof.Rows L2

section
variable (K : PySem.W.Frag) (mg : Str → Option Value)
/-- what may change stands in the heap -/
def ZD (H : Hp) (Zp : Addr → Prop) : Prop := ∀ a, Zp a → H a ≠ none
/-- behind an operation that makes at most new things: a tree, a new object -/
def AftD (H : Hp) (Zp : Addr → Prop) (z : D) (Q : VK) : Prop := ∀ v H', Ext H H' → Rep K mg H' Zp v z → Q v H'
/-- ho bears o, of things that stand in H -/
def NewO (H : Hp) (Zp : Addr → Prop) (ho : HO) : O → Prop
  | .lst ds => ∃ vs, ho = .lst vs ∧ Reps K mg H Zp vs ds
  | .dct ks ds => ∃ kvs, ho = .dK kvs ∧ kvs.map (·.1) = ks ∧ Reps K mg H Zp (kvs.map (·.2)) ds
  | _ => False
def AftO (H : Hp) (Zp : Addr → Prop) (o : O) (Q : VK) : Prop := ∀ p ho, H p = none → NewO K mg H Zp ho o → Q (.ref p) (upd H p ho)
/-- a binary operation: on trees g, its reading r -/
def OpS (r : R2) (g : D → D → Option D) : Prop := ∀ (H : Hp) (Zp : Addr → Prop) v u d e z Q, ZD H Zp → RepB K mg H Zp v d → RepB K mg H Zp u e → g d e = some z → AftD K mg H Zp z Q → r v u H Q
def OpSF (r : R2) (g : D → D → Option O) : Prop := ∀ (H : Hp) (Zp : Addr → Prop) v u d e z Q, RepB K mg H Zp v d → RepB K mg H Zp u e → g d e = some z → AftO K mg H Zp z Q → r v u H Q
def UnS (r : V → Hp → VK → Prop) (g : D → Option D) : Prop := ∀ (H : Hp) (Zp : Addr → Prop) v d z Q, ZD H Zp → RepB K mg H Zp v d → g d = some z → AftD K mg H Zp z Q → r v H Q
inductive RepBs (H : Hp) (Zp : Addr → Prop) : List V → List D → Prop
  | nil : RepBs H Zp [] []
  | cons {v : V} {d : D} {vs : List V} {ds : List D} : RepB K mg H Zp v d → RepBs H Zp vs ds → RepBs H Zp (v :: vs) (d :: ds)
def CaS (r : List V → Hp → VK → Prop) (g : List D → Option D) : Prop := ∀ (H : Hp) (Zp : Addr → Prop) vs ds z Q, ZD H Zp → RepBs K mg H Zp vs ds → g ds = some z → AftD K mg H Zp z Q → r vs H Q
def CaSF (r : List V → Hp → VK → Prop) (g : List D → Option O) : Prop := ∀ (H : Hp) (Zp : Addr → Prop) vs ds z Q, RepBs K mg H Zp vs ds → g ds = some z → AftO K mg H Zp z Q → r vs H Q
end

/-! ### new tuples: without attributes -/
def NewT (xs : List V) (H : Hp) (Q : VK) : Prop := ∀ (p : Addr) (o : Obj), H p = none → o.cls = .type "tuple" → o.dict = none → Q (.ref p) (upd H p (.frz o (.tup xs)))
section
variable {X : Cx} {pins : List (Addr × Obj)} {σ : SS} {H : Hp} {s : Shared} {Q : VK}
theorem newT {xs : List V} {us : List Value} (t' : Nat) (I : Inv X pins σ H s) (r : Vals xs us) (hz : xs.length ≤ sizeLine) (q : NewT xs H Q) :
    EP X pins σ Q (.ref s.heap.objs.size) { s with heap := s.heap.push { cls := .type "tuple", data := .seq us.toArray }, toks := t' } := by
  refine ⟨.ref s.heap.objs.size, _, I.laid (t' := t') (o := .frz { cls := .type "tuple", data := .seq us.toArray } (.tup xs)) (fun b ob q => Heap.get?_push_of_some _ q) (Nat.le_refl _) ?_, rfl, q _ _ (I.hok.fresh (Nat.le_refl _)) rfl rfl⟩
  exact ⟨Heap.get?_push_size _ rfl, hz, us, r, IsTup.new _ _⟩
def tTupS (t : TA) : TE := fun σ H Q => t σ H fun xs H1 => xs.length ≤ sizeLine ∧ NewT xs H1 Q
theorem pe_tupS {es : List Expr} {t : TA} {x1} {pos : Pos} (h : PA X es t) : PE X (.Tuple es x1 pos) (tTupS t) := by
  refine ⟨fun pins s σ H Q I hq => ?_⟩
  refine wpAny_Tuple_spliced (thn (h.run pos pins s σ H _ I hq) fun us s1 ⟨xs, H1, I1, r, z, q⟩ => ⟨by rw [← r.length]; exact z, ?_⟩)
  exact newT s1.toks I1 r z q
def rTuple (K : PySem.W.Frag) : List V → Hp → VK → Prop := fun xs H Q => ∃ p ys, xs = [.ref p] ∧ ((SqL K H p ys ∧ NewT ys H Q) ∨ (SqT K H p ys ∧ Q (.ref p) H))
theorem call_tupleS : CallR X (.type "tuple") (rTuple X.K) := by
  intro pins s σ H xs us Q I r h
  obtain ⟨p, ys, rfl, h⟩ := h
  obtain ⟨u, rfl, rx⟩ := vals1 r
  cases rx
  rcases h with ⟨hq, q⟩ | ⟨hq, q⟩
  · obtain ⟨its, r', pl, hz⟩ := I.list hq
    have hlen := r'.length
    refine call_tuple_list pl.isList (fun h' kp => ?_) (by simp only [List.size_toArray] <;> omega)
    have I1 : Inv X pins σ H { s with heap := h' } := I.kept (t' := s.toks) kp
    exact newT s.toks I1 r' hz q
  · obtain ⟨its, r', pl, hz⟩ := I.tuple hq
    exact call_tuple_same pl ⟨.ref p, H, I, rfl, q⟩
def rCatS (K : PySem.W.Frag) : R2 := fun x y H Q => ∃ a b xs ys, x = .ref a ∧ y = .ref b ∧ SqT K H a xs ∧ SqT K H b ys ∧ xs.length + ys.length ≤ sizeLine ∧
  (xs = [] → Q (.ref b) H) ∧ (xs ≠ [] → ys = [] → Q (.ref a) H) ∧ NewT (xs ++ ys) H Q
theorem op_catS : OpR X (binaryOp .Add) (rCatS X.K) := by
  intro pins s σ H x y v u Q I rx ry h
  obtain ⟨a, b, xs, ys, rfl, rfl, ha, hb, hz, q0, q1, q2⟩ := h
  by_cases hx : xs = []
  · subst hx
    cases rx
    cases ry
    obtain ⟨its, r1, p1, _⟩ := I.tuple ha
    obtain ⟨its2, r2, p2, _⟩ := I.tuple hb
    cases r1
    exact cat_tup0 p1 p2 ⟨.ref b, H, I, rfl, q0 rfl⟩
  · cases rx
    cases ry
    obtain ⟨its, r1, p1, _⟩ := I.tuple ha
    obtain ⟨its2, r2, p2, _⟩ := I.tuple hb
    refine HT.cat_tup p1 p2 (fun z => hx (r1.nil_iff.mp z)) (fun z => ⟨.ref a, H, I, rfl, q1 hx (r2.nil_iff.mp z)⟩) (fun z => ?_) (by rw [← r1.length, ← r2.length]; exact hz)
    exact newT s.toks I (r1.append r2) (by rw [List.length_append]; exact hz) q2
def rSlS' (K : PySem.W.Frag) : V → Option Int → Option Int → Hp → VK → Prop := fun x lo hi H Q => ∃ a xs, x = .ref a ∧ SqT K H a xs ∧
  (HT.sIx xs.length 0 lo = 0 ∧ HT.sIx xs.length xs.length hi = xs.length → Q (.ref a) H) ∧ NewT (cutV xs lo hi) H Q
theorem sl_tupS : SlR X (rSlS' X.K) := by
  intro pins s σ H x v vl vu lo hi sl Q I rx hs pl pu h
  obtain ⟨a, xs, rfl, hx, q1, q2⟩ := h
  cases rx
  obtain ⟨its, r, ht, hz⟩ := I.tuple hx
  have hlen : its.toArray.size = xs.length := by rw [List.size_toArray]; exact r.length.symm
  refine ⟨"tuple", _, PyProof.Rows.slot_tuple_getitem.lookup, ht.typeIs, ?_⟩
  by_cases hw : HT.sIx xs.length 0 lo = 0 ∧ HT.sIx xs.length xs.length hi = xs.length
  · exact getItem_tuple_whole ht hs pl pu (by rw [hlen]; exact hw) ⟨.ref a, H, I, rfl, q1 hw⟩
  · refine HT.getItem_tuple_cut ht hs pl pu (by rw [hlen]; exact hw) ?_ (by rw [hlen]; exact hz)
    rw [hlen]
    exact newT s.toks I ((r.drop (HT.sIx xs.length 0 lo)).take (HT.sIx xs.length xs.length hi - HT.sIx xs.length 0 lo)) (Nat.le_trans (cutV_length xs lo hi) hz) q2
def rRepS (K : PySem.W.Frag) : R2 := fun x y H Q => ∃ l k xs, x = .ref l ∧ y = .int k ∧ SqT K H l xs ∧ xs ≠ [] ∧ 2 ≤ k ∧ k ≤ 1000 ∧ xs.length ≤ 1000 ∧ NewT (List.replicate k.toNat xs).flatten H Q
theorem op_repS : OpR X (binaryOp .Mult) (rRepS X.K) := by
  intro pins s σ H x y v u Q I rx ry h
  obtain ⟨l, k, xs, rfl, rfl, hT, hne, h1, h2, hz, q⟩ := h
  cases rx
  obtain ⟨t, rfl⟩ := ry
  obtain ⟨its, r, ⟨⟨cls, dd, data, sl⟩, ho, hc, n, hd⟩, hs⟩ := I.tuple hT
  simp only at hc hd
  subst hc hd
  have hle : its.length = xs.length := r.length.symm
  have hn : its ≠ [] := fun e => hne (by
    rw [e] at hle
    exact List.eq_nil_of_length_eq_zero hle.symm)
  have hi : its.toArray.isEmpty = false := by
    cases its with
    | nil => exact absurd rfl hn
    | cons a b => rfl
  have hsz0 : its.toArray.size = xs.length := by rw [List.size_toArray, hle]
  have hm : ((its.toArray.size : Nat) : Int) * k ≤ 1000000 := by
    rw [hsz0]
    have a1 : ((xs.length : Nat) : Int) * k ≤ 1000 * k := Int.mul_le_mul_of_nonneg_right (by omega) (by omega)
    omega
  have flen : (List.replicate k.toNat its).flatten.length ≤ sizeLine := by
    rw [PyProof.Rows.lm_len_rep_flat, hle, sizeLine_eq]
    have a1 : k.toNat * xs.length ≤ 1000 * 1000 := Nat.mul_le_mul (by omega) hz
    omega
  have c0 : (decide (k < -(2 ^ 63)) || decide (k ≥ 2 ^ 63)) = false := by
    rw [decide_eq_false (by omega), decide_eq_false (by omega)] <;> rfl
  have c1 : (its.toArray.isEmpty || k == 1) = false := by
    rw [hi, Bool.false_or]
    exact beq_eq_false_iff_ne.mpr (by omega)
  have c2 : (decide (k ≤ 0) || its.toArray.isEmpty) = false := by
    rw [hi, Bool.or_false]
    exact decide_eq_false (by omega)
  have c4 : Builtin.Tuple.tupleTooMany (((its.toArray.size : Nat) : Int) * k) = false := by
    unfold Builtin.Tuple.tupleTooMany
    rw [sizeLine_eq]
    exact decide_eq_false (by omega)
  refine wpAny_binaryOp_repeat_ref (T := "tuple") (U := "int") (by decide) ⟨_, ho, rfl⟩ (fun s' => typeIs_int s' k t) noFill_tuple_mul F.fills_int_mul F.slot_int_rmul repeat_tuple F.slot_int_index.lookup
    (call_meets F.slot_int_rmul (typeIs_int s k t) F.entry_int_rmul (F.args_int_rmul_2 _ _) (int_rmul_tuple k t l its.toArray n dd sl)
      ⟨ho, rfl, ⟨_, ho, rfl⟩, call_meets F.slot_tuple_mul ⟨_, ho, rfl⟩ F.entry_tuple_mul (F.args_tuple_mul_2 _ _) (tuple_mulW l its.toArray n dd sl k t c0 c1 c2 (by omega) c4 (by rw [size_rep, List.size_toArray]; exact flen)) ⟨ho, ?_⟩⟩)
  rw [size_rep]
  exact newT s.toks I (r.rep k.toNat) (by rw [PyProof.Rows.lm_len_rep_flat, sizeLine_eq]; have a1 : k.toNat * xs.length ≤ 1000 * 1000 := Nat.mul_le_mul (by omega) hz; omega) q
end

section
variable {K : PySem.W.Frag} {mg : Str → Option Value} {H : Hp} {Zp : Addr → Prop} {Q : VK}
theorem AftD.same {v : V} {z : D} (h : AftD K mg H Zp z Q) (r : Rep K mg H Zp v z) : Q v H := h v H Ext.refl r
theorem AftD.bl {b : Bool} (h : AftD K mg H Zp (.bl b) Q) : Q (.bl b) H := h.same (.bl b)
theorem AftD.int {i : Int} (h : AftD K mg H Zp (.int i) Q) : Q (.int i) H := h.same (.int i)
theorem AftD.str {i : Str} (h : AftD K mg H Zp (.str i) Q) : Q (.str i) H := h.same (.str i)
theorem AftD.tup {vs : List V} {ds : List D} (h : AftD K mg H Zp (.tup ds) Q) (r : Reps K mg H Zp vs ds) : NewT vs H Q := fun p o n hc hd =>
  h _ _ (Ext.upd n) (.tup (.inl ⟨o, upd_same, hc, hd⟩) (Reps.keeps (Ext.keeps (Ext.upd n)) r))
theorem AftD.lst {vs : List V} {ds : List D} (zd : ZD H Zp) (h : AftD K mg H Zp (.lst ds) Q) (r : Reps K mg H Zp vs ds) : ∀ p, H p = none → Q (.ref p) (upd H p (.lst vs)) := fun p n =>
  h _ _ (Ext.upd n) (.lst upd_same (fun z => zd p z n) (Reps.keeps (Ext.keeps (Ext.upd n)) r))
theorem AftO.lst {vs : List V} {ds : List D} (h : AftO K mg H Zp (.lst ds) Q) (r : Reps K mg H Zp vs ds) : ∀ p, H p = none → Q (.ref p) (upd H p (.lst vs)) := fun p n =>
  h p _ n ⟨vs, rfl, r⟩

/-! ### arithmetic -/
def addD : D → D → Option D
  | .int i, .int j => some (.int (i + j))
  | .str a, .str b => if a.length + b.length ≤ sizeLine then some (.str (a ++ b)) else none
  | .tup xs, .tup ys => if xs.length + ys.length ≤ sizeLine then some (.tup (xs ++ ys)) else none
  | .lst xs, .lst ys => if xs.length + ys.length ≤ sizeLine then some (.lst (xs ++ ys)) else none
  | _, _ => none
def rAdd3 (K : PySem.W.Frag) : R2 := fun x y H Q => rI0 (fun i j => .int (i + j)) x y H Q ∨ (∃ i j, x = .str i ∧ y = .str j ∧ i.length + j.length ≤ sizeLine ∧ Q (.str (i ++ j)) H) ∨ rCatS K x y H Q ∨ rCat x y H Q
theorem or_add {X : Cx} : OpR X (binaryOp .Add) (rAdd3 X.K) := op_add.or (op_add_str.or (op_catS.or op_cat))
theorem os_add : OpS K mg (rAdd3 K) addD := by
  intro H Zp v u d e z Q zd rv ru hg hq
  unfold addD at hg
  split at hg
  · cases hg; exact .inl ⟨_, _, rv.int, ru.int, hq.int⟩
  · split at hg
    · cases hg; exact .inr (.inl ⟨_, _, rv.str, ru.str, by assumption, hq.str⟩)
    · cases hg
  · split at hg
    · rename_i hl
      cases hg
      obtain ⟨a, xs, rfl, ha, ra⟩ := rv.tupP
      obtain ⟨b, ys, rfl, hb, rb⟩ := ru.tupP
      refine .inr (.inr (.inl ⟨a, b, xs, ys, rfl, rfl, ha.sqT, hb.sqT, by rw [ra.length, rb.length]; exact hl, fun e => ?_, fun _ e => ?_, hq.tup (ra.append rb)⟩))
      · subst e
        cases ra
        exact hq.same (.tup hb rb)
      · subst e
        cases rb
        rw [List.append_nil] at hq
        exact hq.same (.tup ha ra)
    · cases hg
  · split at hg
    · rename_i hl
      cases hg
      obtain ⟨a, xs, rfl, ha, ra⟩ := rv.lstI
      obtain ⟨b, ys, rfl, hb, rb⟩ := ru.lstI
      exact .inr (.inr (.inr ⟨a, b, xs, ys, rfl, rfl, ha, hb, by rw [ra.length, rb.length]; exact hl, hq.lst zd (ra.append rb)⟩))
    · cases hg
  · cases hg
def subD : D → D → Option D
  | .int i, .int j => some (.int (i - j))
  | _, _ => none
theorem os_sub : OpS K mg (rI0 fun i j => .int (i - j)) subD := by
  intro H Zp v u d e z Q zd rv ru hg hq
  unfold subD at hg
  split at hg
  · cases hg; exact ⟨_, _, rv.int, ru.int, hq.int⟩
  · cases hg
/-- the factors are not both great -/
def mulOk (i j : Int) : Bool := decide (i.natAbs < 2 ^ 63) || decide (j.natAbs < 2 ^ 63) || decide (i.natAbs.log2 + j.natAbs.log2 < 1000000)
def mulD : D → D → Option D
  | .int i, .int j => if mulOk i j then some (.int (i * j)) else none
  | .tup xs, .int k => if xs ≠ [] ∧ 2 ≤ k ∧ k ≤ 1000 ∧ xs.length ≤ 1000 then some (.tup (List.replicate k.toNat xs).flatten) else none
  | .lst xs, .int k => if -(2 ^ 63) ≤ k ∧ k < 2 ^ 63 ∧ xs.length * k.toNat ≤ sizeLine then some (.lst (List.replicate k.toNat xs).flatten) else none
  | _, _ => none
def CMulE (i j : Int) : Prop := CMul i j ∨ CMulW i j
theorem mulOk_ok {i j : Int} (h : mulOk i j = true) : CMulE i j := by
  unfold mulOk at h
  simp only [Bool.or_eq_true, decide_eq_true_eq] at h
  rcases h with (h | h) | h
  · exact .inl (.inl (by omega))
  · exact .inl (.inr (by omega))
  · exact .inr h
def rMul2 (K : PySem.W.Frag) : R2 := fun x y H Q => rI CMulE (fun i j => .int (i * j)) x y H Q ∨ rRepS K x y H Q ∨ rRep x y H Q
theorem or_mul {X : Cx} : OpR X (binaryOp .Mult) (rMul2 X.K) := OpR.or (opI fun _ _ _ _ _ _ _ hc q => mul_int q (by rcases hc with hc | hc; exact hc.ok; exact hc.ok)) (op_repS.or op_rep)
theorem os_mul : OpS K mg (rMul2 K) mulD := by
  intro H Zp v u d e z Q zd rv ru hg hq
  unfold mulD at hg
  split at hg
  · split at hg
    · cases hg; exact .inl ⟨_, _, rv.int, ru.int, mulOk_ok (by assumption), hq.int⟩
    · cases hg
  · split at hg
    · rename_i hc
      cases hg
      obtain ⟨a, xs, rfl, ha, ra⟩ := rv.tupI
      refine .inr (.inl ⟨a, _, xs, rfl, ru.int, ha, fun e => hc.1 ?_, hc.2.1, hc.2.2.1, by rw [ra.length]; exact hc.2.2.2, hq.tup (ra.reps _)⟩)
      subst e
      cases ra
      rfl
    · cases hg
  · split at hg
    · rename_i hl
      cases hg
      obtain ⟨a, xs, rfl, ha, ra⟩ := rv.lstI
      exact .inr (.inr ⟨a, _, xs, rfl, ru.int, ha, hl.1, hl.2.1, by rw [ra.length]; exact hl.2.2, hq.lst zd (ra.reps _)⟩)
    · cases hg
  · cases hg
def fdivD : D → D → Option D
  | .int i, .int j => if j ≠ 0 ∧ j.natAbs < 1073741824 then some (.int (i.fdiv j)) else none
  | _, _ => none
theorem os_fdiv : OpS K mg (rI CDivN fun i j => .int (i.fdiv j)) fdivD := by
  intro H Zp v u d e z Q zd rv ru hg hq
  unfold fdivD at hg
  split at hg
  · split at hg
    · cases hg; exact ⟨_, _, rv.int, ru.int, by assumption, hq.int⟩
    · cases hg
  · cases hg
def modD : D → D → Option D
  | .int i, .int j => if j ≠ 0 then some (.int (i.fmod j)) else none
  | _, _ => none
theorem os_mod : OpS K mg (rI (fun _ j => j ≠ 0) fun i j => .int (i.fmod j)) modD := by
  intro H Zp v u d e z Q zd rv ru hg hq
  unfold modD at hg
  split at hg
  · split at hg
    · cases hg; exact ⟨_, _, rv.int, ru.int, by assumption, hq.int⟩
    · cases hg
  · cases hg
def powOk (i j : Int) : Bool := decide (0 ≤ j) && decide ((Builtin.Int.intBits i : Int) * j ≤ 2 ^ 27)
def powD : D → D → Option D
  | .int i, .int j => if powOk i j then some (.int (i ^ j.toNat)) else none
  | _, _ => none
def CPowE (i j : Int) : Prop := 0 ≤ j ∧ (Builtin.Int.intBits i : Int) * j ≤ 2 ^ 27
theorem or_pow {X : Cx} : OpR X (binaryOp .Pow) (rI CPowE fun i j => .int (i ^ j.toNat)) := opI fun _ _ _ _ _ _ _ hc q => pow_int hc.1 hc.2 q
theorem os_pow : OpS K mg (rI CPowE fun i j => .int (i ^ j.toNat)) powD := by
  intro H Zp v u d e z Q zd rv ru hg hq
  unfold powD at hg
  split at hg
  · split at hg
    · rename_i hc
      cases hg
      unfold powOk at hc
      simp only [Bool.and_eq_true, decide_eq_true_eq] at hc
      exact ⟨_, _, rv.int, ru.int, hc, hq.int⟩
    · cases hg
  · cases hg
/-- lists: + and * make new ones -/
def catF : D → D → Option O
  | .lst xs, .lst ys => if xs.length + ys.length ≤ sizeLine then some (.lst (xs ++ ys)) else none
  | _, _ => none
theorem os_cat : OpSF K mg rCat catF := by
  intro H Zp v u d e z Q rv ru hg hq
  unfold catF at hg
  split at hg
  · split at hg
    · rename_i hl
      cases hg
      obtain ⟨a, xs, rfl, ha, ra⟩ := rv.lstI
      obtain ⟨b, ys, rfl, hb, rb⟩ := ru.lstI
      exact ⟨a, b, xs, ys, rfl, rfl, ha, hb, by rw [ra.length, rb.length]; exact hl, hq.lst (ra.append rb)⟩
    · cases hg
  · cases hg
def repF : D → D → Option O
  | .lst xs, .int k => if -(2 ^ 63) ≤ k ∧ k < 2 ^ 63 ∧ xs.length * k.toNat ≤ sizeLine then some (.lst (List.replicate k.toNat xs).flatten) else none
  | _, _ => none
theorem os_rep : OpSF K mg rRep repF := by
  intro H Zp v u d e z Q rv ru hg hq
  unfold repF at hg
  split at hg
  · split at hg
    · rename_i hl
      cases hg
      obtain ⟨a, xs, rfl, ha, ra⟩ := rv.lstI
      exact ⟨a, _, xs, rfl, ru.int, ha, hl.1, hl.2.1, by rw [ra.length]; exact hl.2.2, hq.lst (ra.reps _)⟩
    · cases hg
  · cases hg
def negD : D → Option D
  | .int i => some (.int (-i))
  | _ => none
theorem os_neg : UnS K mg (rU fun i => .int (-i)) negD := by
  intro H Zp v d z Q zd rv hg hq
  unfold negD at hg
  split at hg
  · cases hg; exact ⟨_, rv.int, hq.int⟩
  · cases hg

/-! ### comparisons -/
mutual
def D.py : D → Option PyData
  | .non => some .none
  | .bl b => some (.bool b)
  | .int i => some (.int i)
  | .str s => some (.str s)
  | .tup xs => (D.pys xs).map .tuple
  | .lst xs => (D.pys xs).map .list
  | .rls xs => (D.pys xs).map .list
  | _ => none
def D.pys : List D → Option (List PyData)
  | [] => some []
  | d :: ds => match D.py d, D.pys ds with
    | some x, some xs => some (x :: xs)
    | _, _ => none
end
mutual
theorem Rep.dp : ∀ {v : V} {d : D} {p : PyData}, Rep K mg H Zp v d → d.py = some p → Dp K H v p
  | _, _, _, .non, e => by cases e; exact .non
  | _, _, _, .bl b, e => by cases e; exact .bl b
  | _, _, _, .int i, e => by cases e; exact .int i
  | _, _, _, .str s, e => by cases e; exact .str s
  | _, _, _, .tup (ds := ds) h r, e => by
    unfold D.py at e
    cases q : D.pys ds with
    | none => rw [q] at e; cases e
    | some ps => rw [q] at e; cases e; exact .tup h.sqT (Reps.dps r q)
  | _, _, _, .lst (ds := ds) h z r, e => by
    unfold D.py at e
    cases q : D.pys ds with
    | none => rw [q] at e; cases e
    | some ps => rw [q] at e; cases e; exact .lst (SqL.of h) (Reps.dps r q)
  | _, _, _, .rls (ds := ds) h r, e => by
    unfold D.py at e
    cases q : D.pys ds with
    | none => rw [q] at e; cases e
    | some ps => rw [q] at e; cases e; exact .lst h.sqL (Reps.dps r q)
  | _, _, _, .wtp _ _, e => by cases e
  | _, _, _, .dct _ _ _ _, e => by cases e
  | _, _, _, .ins _ _ _ _ _, e => by cases e
  | _, _, _, .glo _, e => by cases e
  | _, _, _, .ty _, e => by cases e
theorem Reps.dps : ∀ {vs : List V} {ds : List D} {ps : List PyData}, Reps K mg H Zp vs ds → D.pys ds = some ps → DpAll K H vs ps
  | _, _, _, .nil, e => by cases e; exact .nil
  | _, _, _, .cons (d := d) (ds := ds) r t, e => by
    unfold D.pys at e
    cases q : D.py d with
    | none => rw [q] at e; cases e
    | some x =>
      rw [q] at e
      cases q2 : D.pys ds with
      | none => rw [q2] at e; cases e
      | some xs => rw [q2] at e; cases e; exact .cons (Rep.dp r q) (Reps.dps t q2)
end
theorem RepB.dp {v : V} {d : D} {p : PyData} (r : RepB K mg H Zp v d) (e : d.py = some p) : Dp K H v p := by
  cases r with
  | full r => exact Rep.dp r e
  | lst h q =>
    rename_i a vs ds
    unfold D.py at e
    cases q2 : D.pys ds with
    | none => rw [q2] at e; cases e
    | some ps => rw [q2] at e; cases e; exact .lst (SqL.of h) (Reps.dps q q2)
  | dct _ _ _ => cases e
  | ins _ _ _ _ => cases e
def eqB : D → D → Option Bool
  | .int i, .int j => some (decide (i = j))
  | .str a, .str b => some (decide (a = b))
  | .bl a, .bl b => some (decide (a = b))
  | .non, .non => some true
  | d, e => match d.py, e.py with
    | some p, some q => if SeqAt.shaped p && SeqAt.shaped q then some (PyData.eqv p q) else none
    | _, _ => none
def eqD (d e : D) : Option D := (eqB d e).map .bl
def neD (d e : D) : Option D := (eqB d e).map fun b => .bl (!b)
def rEq2 (K : PySem.W.Frag) : R2 := fun x y H Q => rEq x y H Q ∨ rEqD K x y H Q
def rNe2 (K : PySem.W.Frag) : R2 := fun x y H Q => rNe x y H Q ∨ rNeD K x y H Q
theorem or_eq {X : Cx} (hu : X.A.units + 64 < cLine) : OpR X (compareOp .Eq) (rEq2 X.K) := op_eq.or (op_eqD hu)
theorem or_ne {X : Cx} (hu : X.A.units + 64 < cLine) : OpR X (compareOp .NotEq) (rNe2 X.K) := op_ne.or (op_neD hu)
theorem eqB_read {v u : V} {d e : D} {b : Bool} (rv : RepB K mg H Zp v d) (ru : RepB K mg H Zp u e) (h : eqB d e = some b) :
    (scal v u = true ∧ decide (v = u) = b) ∨ ∃ p q, Dp K H v p ∧ Dp K H u q ∧ SeqAt.shaped p = true ∧ SeqAt.shaped q = true ∧ PyData.eqv p q = b := by
  unfold eqB at h
  split at h
  · cases h; rw [rv.int, ru.int]; exact .inl ⟨rfl, by simp⟩
  · cases h; rw [rv.str, ru.str]; exact .inl ⟨rfl, by simp⟩
  · cases h; rw [rv.bl, ru.bl]; exact .inl ⟨rfl, by simp⟩
  · cases h; rw [rv.non, ru.non]; exact .inl ⟨rfl, by simp⟩
  · split at h
    · rename_i p q e1 e2
      split at h
      · rename_i hs
        cases h
        rw [Bool.and_eq_true] at hs
        exact .inr ⟨p, q, rv.dp e1, ru.dp e2, hs.1, hs.2, rfl⟩
      · cases h
    · cases h
theorem os_eq : OpS K mg (rEq2 K) eqD := by
  intro H Zp v u d e z Q zd rv ru hg hq
  unfold eqD at hg
  cases h : eqB d e with
  | none => rw [h] at hg; cases hg
  | some b =>
    rw [h] at hg; cases hg
    rcases eqB_read rv ru h with ⟨h1, h2⟩ | ⟨p, q, h1, h2, h3, h4, h5⟩
    · exact .inl ⟨h1, by rw [h2]; exact hq.bl⟩
    · exact .inr ⟨p, q, h1, h2, h3, h4, by rw [h5]; exact hq.bl⟩
theorem os_ne : OpS K mg (rNe2 K) neD := by
  intro H Zp v u d e z Q zd rv ru hg hq
  unfold neD at hg
  cases h : eqB d e with
  | none => rw [h] at hg; cases hg
  | some b =>
    rw [h] at hg; cases hg
    rcases eqB_read rv ru h with ⟨h1, h2⟩ | ⟨p, q, h1, h2, h3, h4, h5⟩
    · exact .inl ⟨h1, by rw [h2]; exact hq.bl⟩
    · exact .inr ⟨p, q, h1, h2, h3, h4, by rw [h5]; exact hq.bl⟩
def ltD : D → D → Option D
  | .int i, .int j => some (.bl (decide (i < j)))
  | .str a, .str b => some (.bl (decide (a.cps.toList < b.cps.toList)))
  | .tup xs, .tup ys => match D.allInts xs, D.allInts ys with
    | some ns, some ms => some (.bl (HT.lexLt ns ms))
    | _, _ => none
  | _, _ => none
def rLt3 (K : PySem.W.Frag) : R2 := fun x y H Q => rI0 (fun i j => .bl (decide (i < j))) x y H Q ∨ (∃ i j, x = .str i ∧ y = .str j ∧ Q (.bl (decide (i.cps.toList < j.cps.toList))) H) ∨ rLtT K x y H Q
theorem or_lt {X : Cx} (hu : X.A.units < cLine) : OpR X (compareOp .Lt) (rLt3 X.K) := op_lt.or (op_lt_str.or (op_ltT hu))
theorem os_lt : OpS K mg (rLt3 K) ltD := by
  intro H Zp v u d e z Q zd rv ru hg hq
  unfold ltD at hg
  split at hg
  · cases hg; exact .inl ⟨_, _, rv.int, ru.int, hq.bl⟩
  · cases hg; exact .inr (.inl ⟨_, _, rv.str, ru.str, hq.bl⟩)
  · split at hg
    · rename_i e1 e2
      cases hg
      obtain ⟨a, xs, rfl, ha, ra⟩ := rv.tupI
      obtain ⟨b, ys, rfl, hb, rb⟩ := ru.tupI
      rw [D.allInts_eq e1] at ra
      rw [D.allInts_eq e2] at rb
      rw [ra.ints] at ha
      rw [rb.ints] at hb
      exact .inr (.inr ⟨a, b, _, _, rfl, rfl, ha, hb, hq.bl⟩)
    · cases hg
  · cases hg
def leD : D → D → Option D
  | .int i, .int j => some (.bl (decide (i ≤ j)))
  | _, _ => none
theorem os_le : OpS K mg (rI0 fun i j => .bl (decide (i ≤ j))) leD := by
  intro H Zp v u d e z Q zd rv ru hg hq
  unfold leD at hg
  split at hg
  · cases hg; exact ⟨_, _, rv.int, ru.int, hq.bl⟩
  · cases hg
def gtD : D → D → Option D
  | .int i, .int j => some (.bl (decide (j < i)))
  | _, _ => none
theorem os_gt : OpS K mg (rI0 fun i j => .bl (decide (j < i))) gtD := by
  intro H Zp v u d e z Q zd rv ru hg hq
  unfold gtD at hg
  split at hg
  · cases hg; exact ⟨_, _, rv.int, ru.int, hq.bl⟩
  · cases hg
def geD : D → D → Option D
  | .int i, .int j => some (.bl (decide (j ≤ i)))
  | _, _ => none
theorem os_ge : OpS K mg (rI0 fun i j => .bl (decide (j ≤ i))) geD := by
  intro H Zp v u d e z Q zd rv ru hg hq
  unfold geD at hg
  split at hg
  · cases hg; exact ⟨_, _, rv.int, ru.int, hq.bl⟩
  · cases hg
/-- is None, is True, is False -/
def isB : D → D → Option Bool
  | .bl a, .bl b => some (decide (a = b))
  | .non, .non => some true
  | .int _, .non => some false
  | .bl _, .non => some false
  | .str _, .non => some false
  | .tup _, .non => some false
  | .lst _, .non => some false
  | .rls _, .non => some false
  | .dct _ _, .non => some false
  | .ins _ _ _, .non => some false
  | _, _ => none
def isD (d e : D) : Option D := (isB d e).map .bl
def isnD (d e : D) : Option D := (isB d e).map fun b => .bl (!b)
def rIs2 : R2 := fun x y H Q => (y = .non ∧ Q (.bl (decide (x = .non))) H) ∨ (∃ a b : Bool, x = .bl a ∧ y = .bl b ∧ Q (.bl (decide (a = b))) H)
def rIsn2 : R2 := fun x y H Q => (y = .non ∧ Q (.bl (!decide (x = .non))) H) ∨ (∃ a b : Bool, x = .bl a ∧ y = .bl b ∧ Q (.bl (!decide (a = b))) H)
theorem or_is {X : Cx} : OpR X (compareOp .Is) rIs2 := op_isN.or op_isBl
theorem or_isn {X : Cx} : OpR X (compareOp .IsNot) rIsn2 := op_notN.or op_notBl
theorem isB_read {v u : V} {d e : D} {b : Bool} (rv : RepB K mg H Zp v d) (ru : RepB K mg H Zp u e) (h : isB d e = some b) :
    (u = .non ∧ decide (v = .non) = b) ∨ ∃ x y : Bool, v = .bl x ∧ u = .bl y ∧ decide (x = y) = b := by
  unfold isB at h
  split at h
  · cases h; exact .inr ⟨_, _, rv.bl, ru.bl, rfl⟩
  · cases h; exact .inl ⟨ru.non, by rw [rv.non]; rfl⟩
  · cases h; exact .inl ⟨ru.non, by rw [rv.int]; rfl⟩
  · cases h; exact .inl ⟨ru.non, by rw [rv.bl]; rfl⟩
  · cases h; exact .inl ⟨ru.non, by rw [rv.str]; rfl⟩
  · cases h; obtain ⟨_, _, e, _⟩ := rv.tupI; exact .inl ⟨ru.non, by rw [e]; rfl⟩
  · cases h; obtain ⟨_, _, e, _⟩ := rv.lstI; exact .inl ⟨ru.non, by rw [e]; rfl⟩
  · cases h; obtain ⟨_, _, e, _⟩ := rv.rlsI; exact .inl ⟨ru.non, by rw [e]; rfl⟩
  · cases h; obtain ⟨_, _, e, _⟩ := rv.dctI; exact .inl ⟨ru.non, by rw [e]; rfl⟩
  · cases h; obtain ⟨_, _, _, _, e, _⟩ := rv.insI; exact .inl ⟨ru.non, by rw [e]; rfl⟩
  · cases h
theorem os_is : OpS K mg rIs2 isD := by
  intro H Zp v u d e z Q zd rv ru hg hq
  unfold isD at hg
  cases h : isB d e with
  | none => rw [h] at hg; cases hg
  | some b =>
    rw [h] at hg; cases hg
    rcases isB_read rv ru h with ⟨h1, h2⟩ | ⟨p, q, h1, h2, h3⟩
    · exact .inl ⟨h1, by rw [h2]; exact hq.bl⟩
    · exact .inr ⟨p, q, h1, h2, by rw [h3]; exact hq.bl⟩
theorem os_isn : OpS K mg rIsn2 isnD := by
  intro H Zp v u d e z Q zd rv ru hg hq
  unfold isnD at hg
  cases h : isB d e with
  | none => rw [h] at hg; cases hg
  | some b =>
    rw [h] at hg; cases hg
    rcases isB_read rv ru h with ⟨h1, h2⟩ | ⟨p, q, h1, h2, h3⟩
    · exact .inl ⟨h1, by rw [h2]; exact hq.bl⟩
    · exact .inr ⟨p, q, h1, h2, by rw [h3]; exact hq.bl⟩
/-- x in a sequence of flat things -/
def D.flat : D → Option V
  | .non => some .non
  | .bl b => some (.bl b)
  | .int i => some (.int i)
  | .str s => some (.str s)
  | _ => none
def D.flats : List D → Option (List V)
  | [] => some []
  | d :: ds => match D.flat d, D.flats ds with
    | some x, some xs => some (x :: xs)
    | _, _ => none
theorem RepB.flat {v x : V} {d : D} (r : RepB K mg H Zp v d) (e : d.flat = some x) : v = x ∧ flatV x = true := by
  unfold D.flat at e
  split at e
  · cases e; exact ⟨r.non, rfl⟩
  · cases e; exact ⟨r.bl, rfl⟩
  · cases e; exact ⟨r.int, rfl⟩
  · cases e; exact ⟨r.str, rfl⟩
  · cases e
theorem Reps.flats : ∀ {vs xs : List V} {ds : List D}, Reps K mg H Zp vs ds → D.flats ds = some xs → vs = xs ∧ xs.all flatV = true
  | _, _, _, .nil, e => by cases e; exact ⟨rfl, rfl⟩
  | _, _, _, .cons (d := d) (ds := ds) r t, e => by
    unfold D.flats at e
    cases q : D.flat d with
    | none => rw [q] at e; cases e
    | some x =>
      rw [q] at e
      cases q2 : D.flats ds with
      | none => rw [q2] at e; cases e
      | some xs =>
        rw [q2] at e; cases e
        obtain ⟨e1, f1⟩ := (RepB.full r).flat q
        obtain ⟨e2, f2⟩ := Reps.flats t q2
        exact ⟨by rw [e1, e2], by simp [f1, f2]⟩
def inB : D → D → Option Bool
  | .str a, .str b => match a.cps.toList with
    | [c] => some (decide (c ∈ b.cps.toList))
    | _ => none
  | d, e => match d.flat, e.items with
    | some x, some ds => (D.flats ds).map fun xs => inV x xs
    | _, _ => none
def inD (d e : D) : Option D := (inB d e).map .bl
def ninD (d e : D) : Option D := (inB d e).map fun b => .bl (!b)
def rIn2 (K : PySem.W.Frag) : R2 := fun x y H Q => (∃ (c : Nat) (z : Str), x = .str ⟨#[c]⟩ ∧ y = .str z ∧ Q (.bl (decide (c ∈ z.cps.toList))) H) ∨ rIn K false x y H Q
def rNin2 (K : PySem.W.Frag) : R2 := fun x y H Q => (∃ (c : Nat) (z : Str), x = .str ⟨#[c]⟩ ∧ y = .str z ∧ Q (.bl (!decide (c ∈ z.cps.toList))) H) ∨ rIn K true x y H Q
theorem or_in {X : Cx} : OpR X (compareOp .In) (rIn2 X.K) := op_in_sign.or op_in_seq
theorem or_nin {X : Cx} : OpR X (compareOp .NotIn) (rNin2 X.K) := op_notIn_sign.or op_notIn_seq
theorem inB_read {v u : V} {d e : D} {b : Bool} (rv : RepB K mg H Zp v d) (ru : RepB K mg H Zp u e) (h : inB d e = some b) :
    (∃ (c : Nat) (z : Str), v = .str ⟨#[c]⟩ ∧ u = .str z ∧ decide (c ∈ z.cps.toList) = b) ∨
      ∃ p xs, u = .ref p ∧ (SqL K H p xs ∨ SqT K H p xs) ∧ flatV v = true ∧ xs.all flatV = true ∧ inV v xs = b := by
  unfold inB at h
  split at h
  · rename_i a z
    split at h
    · rename_i c q
      cases h
      refine .inl ⟨c, z, ?_, ru.str, rfl⟩
      rw [rv.str]
      obtain ⟨⟨l⟩⟩ := a
      have q' : l = [c] := q
      rw [q']
    · cases h
  · split at h
    · rename_i x ds e1 e2
      cases q : D.flats ds with
      | none => rw [q] at h; cases h
      | some xs =>
        rw [q] at h; cases h
        obtain ⟨p, vs, rfl, hp, rp⟩ := ru.seq e2
        obtain ⟨rfl, f1⟩ := rv.flat e1
        obtain ⟨rfl, f2⟩ := rp.flats q
        exact .inr ⟨p, vs, rfl, hp, f1, f2, rfl⟩
    · cases h
theorem os_in : OpS K mg (rIn2 K) inD := by
  intro H Zp v u d e z Q zd rv ru hg hq
  unfold inD at hg
  cases h : inB d e with
  | none => rw [h] at hg; cases hg
  | some b =>
    rw [h] at hg; cases hg
    rcases inB_read rv ru h with ⟨c, z, h1, h2, h3⟩ | ⟨p, xs, h1, h2, h3, h4, h5⟩
    · exact .inl ⟨c, z, h1, h2, by rw [h3]; exact hq.bl⟩
    · exact .inr ⟨p, xs, h1, h2, h3, h4, by rw [h5]; exact hq.bl⟩
theorem os_nin : OpS K mg (rNin2 K) ninD := by
  intro H Zp v u d e z Q zd rv ru hg hq
  unfold ninD at hg
  cases h : inB d e with
  | none => rw [h] at hg; cases hg
  | some b =>
    rw [h] at hg; cases hg
    rcases inB_read rv ru h with ⟨c, z, h1, h2, h3⟩ | ⟨p, xs, h1, h2, h3, h4, h5⟩
    · exact .inl ⟨c, z, h1, h2, by rw [h3]; exact hq.bl⟩
    · exact .inr ⟨p, xs, h1, h2, h3, h4, by rw [h5]; exact hq.bl⟩
end
end Ev
/-! Part C1: min, max of a list of pairs of ints (the comparison is known where the pairs stand). -/
namespace Ev
open PySem PySem.Spec PyProof.Rows L2
section
variable {prog : Program} {w : World} {A : Around} {R : Result → Shared → Prop} {I : Addr} {fp wr : List Addr} {n : Nat} {P : Nat → Value → Prop} {St : Nat → Heap → Prop}
def CmpAt (prog : Program) (w : World) (A : Around) (op : CmpOp) (P : Nat → Value → Prop) (St : Nat → Heap → Prop) (bt : Nat → Nat → Bool) : Prop :=
  ∀ i j k vi vj (s : Shared) (Q : Value → Shared → Prop) (E : Value → Shared → Prop), St k s.heap → P i vi → P j vj → Q (.bool (bt i j)) s → wpAny (model prog w) A (richCompare op vi vj) Q E s
/-- a walk beside which something stays true -/
theorem walks_and (W : Walks prog w A I fp wr n P St) (T : Heap → Prop) (as : List Addr) (ht : ∀ h h', T h → (∀ b ∈ as, ∀ o, h.get? b = some o → h'.get? b = some o) → T h') (hw : ∀ b ∈ as, b ∉ wr) : Walks prog w A I (fp ++ as) wr n P (fun i h => St i h ∧ T h) where
  sub := fun b hb => List.mem_append_left _ (W.sub b hb)
  frame := fun i h h' st hk => ⟨W.frame i h h' st.1 fun b hb => hk b (List.mem_append_left _ hb), ht h h' st.2 fun b hb => hk b (List.mem_append_right _ hb)⟩
  item := fun i s Q E hi st hQ => W.item i s Q E hi st.1 fun v h' tk hP hst hk => hQ v h' tk hP ⟨hst, ht _ _ st.2 fun b hb o e => hk b o (hw b hb) e⟩ hk
  done := fun s Q E st hQ => W.done s Q E st.1 hQ
  self := fun i s Q E st hQ => W.self i s Q E st.1 hQ
theorem min_loopT (W : Walks prog w A.in1 I fp wr n P St) (bt : Nat → Nat → Bool) (hcmp : CmpAt prog w A.in1 .Lt P St bt) (S : Addr) (hSf : S ∉ fp) :
    ∀ (k j : Nat) (s : Shared) (vb : Value) (c : Nat), n - (j + 1) = k → j + 1 ≤ n → St (j + 1) s.heap → P (argBest bt j) vb → s.heap.get? S = some { cls := .type "list", dict := none, data := .seq #[vb, vb] c, slots := #[] } →
    (∀ v h' tk, P (argBest bt (n - 1)) v → (∀ b o, b ∉ wr → b ≠ S → s.heap.get? b = some o → h'.get? b = some o) → R (.ok (.ret v)) { s with heap := h', toks := tk }) → codeAny (model prog w) A (.builtin "min.loop" ⟨[.ref I, .none, .ref S], []⟩) R s := by
  have w1 : S ∉ wr := fun h => hSf (W.sub _ h)
  have nm : (toString "min" ++ toString ".loop" : String) = "min.loop" := by decide
  intro k
  induction k with
  | zero =>
    intro j s vb c hk hj st pb gS hR
    have en : j + 1 = n := by omega
    refine codeAny_builtin F.entry_min_loop ?_
    rw [Around.under_plainId F.plain_min_loop _]
    show wpAny _ A.in1 (seqItems? (.ref S) >>= _) _ _ s
    refine wpAny_bind (wpAny_seqItems gS rfl ?_)
    show wpAny _ A.in1 (tryCatch (pyNext (.ref I)) _ >>= _) _ _ s
    refine wpAny_bind (wpAny_tryCatch (W.done s _ _ (en ▸ st) fun h1 tk kp => ?_))
    have gS1 := kp S _ w1 gS
    show wpAny _ A.in1 (updateSeq S (fun _ => #[]) >>= _) _ _ _
    refine wpAny_bind (wpAny_updateSeq gS1 rfl (wpAny_bind (wpAny_letGo (wpAny_pure ?_))))
    exact hR vb _ tk (by rw [← en]; exact pb) fun b o hb1 hb2 e => (Heap.get?_update_other _ _ (Ne.symm hb2)).trans (kp b o hb1 e)
  | succ k ih =>
    intro j s vb c hk hj st pb gS hR
    have lt : j + 1 < n := by omega
    refine codeAny_builtin F.entry_min_loop ?_
    rw [Around.under_plainId F.plain_min_loop _]
    show wpAny _ A.in1 (seqItems? (.ref S) >>= _) _ _ s
    refine wpAny_bind (wpAny_seqItems gS rfl ?_)
    show wpAny _ A.in1 (tryCatch (pyNext (.ref I)) _ >>= _) _ _ s
    refine wpAny_bind (wpAny_tryCatch (W.item (j + 1) s _ _ lt st fun v h1 tk pv st1 kp => ?_))
    have gS1 := kp S _ w1 gS
    show wpAny _ A.in1 (tryCatch (holding [v, v] (richCompare .Lt v vb >>= _)) _ >>= _) _ _ _
    refine wpAny_bind (wpAny_tryCatch (wpAny_holding (wpAny_bind (hcmp (j + 1) (argBest bt j) (j + 1 + 1) v vb _ _ _ st1 pv pb ?_))))
    refine wpAny_bind (wpAny_holding (wpAny_truthy_bool ?_))
    refine wpAny_bind (wpAny_letGo (wpAny_pure ?_))
    cases hb : bt (j + 1) (argBest bt j) with
    | true =>
      simp only [if_true]
      refine wpAny_bind (wpAny_updateSeq gS1 rfl (wpAny_bind (wpAny_letGo ?_)))
      rw [nm]
      refine wpAny_pure ⟨plainId_quiet F.plain_min_loop _, ih (j + 1) _ v _ (by omega) lt (W.frame _ _ _ st1 fun b hbf o e => ?_) (by simp only [argBest, hb, if_true]; exact pv) (Heap.get?_update_self _ gS1 rfl) fun v2 h2 tk2 p2 k2 => ?_⟩
      · exact (Heap.get?_update_other _ _ (fun h : S = b => hSf (by rw [h]; exact hbf))).trans e
      · exact hR v2 h2 tk2 p2 fun b o hb1 hb2 e => k2 b o hb1 hb2 ((Heap.get?_update_other _ _ (Ne.symm hb2)).trans (kp b o hb1 e))
    | false =>
      simp only [Bool.false_eq_true, if_false]
      refine wpAny_bind (wpAny_letGo ?_)
      rw [nm]
      refine wpAny_pure ⟨plainId_quiet F.plain_min_loop _, ih (j + 1) _ vb c (by omega) lt st1 (by simp only [argBest, hb, Bool.false_eq_true, if_false]; exact pb) gS1 fun v2 h2 tk2 p2 k2 => ?_⟩
      exact hR v2 h2 tk2 p2 fun b o hb1 hb2 e => k2 b o hb1 hb2 (kp b o hb1 e)
theorem min_loopT0 (W : Walks prog w A.in1 I fp wr n P St) (bt : Nat → Nat → Bool) (hcmp : CmpAt prog w A.in1 .Lt P St bt) (S : Addr) (hSf : S ∉ fp) (hn : 0 < n) {s : Shared} {c : Nat} (st : St 0 s.heap)
    (gS : s.heap.get? S = some { cls := .type "list", dict := none, data := .seq #[] c, slots := #[] })
    (hR : ∀ v h' tk, P (argBest bt (n - 1)) v → (∀ b o, b ∉ wr → b ≠ S → s.heap.get? b = some o → h'.get? b = some o) → R (.ok (.ret v)) { s with heap := h', toks := tk }) :
    codeAny (model prog w) A (.builtin "min.loop" ⟨[.ref I, .none, .ref S], []⟩) R s := by
  have w1 : S ∉ wr := fun h => hSf (W.sub _ h)
  have nm : (toString "min" ++ toString ".loop" : String) = "min.loop" := by decide
  refine codeAny_builtin F.entry_min_loop ?_
  rw [Around.under_plainId F.plain_min_loop _]
  show wpAny _ A.in1 (seqItems? (.ref S) >>= _) _ _ s
  refine wpAny_bind (wpAny_seqItems gS rfl ?_)
  show wpAny _ A.in1 (tryCatch (pyNext (.ref I)) _ >>= _) _ _ s
  refine wpAny_bind (wpAny_tryCatch (W.item 0 s _ _ hn st fun v h1 tk pv st1 kp => ?_))
  have gS1 := kp S _ w1 gS
  show wpAny _ A.in1 (updateSeq S (fun _ => #[v, v]) >>= _) _ _ _
  refine wpAny_bind (wpAny_updateSeq gS1 rfl ?_)
  rw [nm]
  refine wpAny_pure ⟨plainId_quiet F.plain_min_loop _, min_loopT W bt hcmp S hSf _ 0 _ v _ rfl hn (W.frame _ _ _ st1 fun b hbf o e => ?_) pv (Heap.get?_update_self _ gS1 rfl) fun v2 h2 tk2 p2 k2 => ?_⟩
  · exact (Heap.get?_update_other _ _ (fun h : S = b => hSf (by rw [h]; exact hbf))).trans e
  · exact hR v2 h2 tk2 p2 fun b o hb1 hb2 e => k2 b o hb1 hb2 ((Heap.get?_update_other _ _ (Ne.symm hb2)).trans (kp b o hb1 e))
theorem call_minT {E : Value → Shared → Prop} {s : Shared} {x : Value} {Q : Value → Shared → Prop}
    (h : wpAny (model prog w) A.in1 (pyIter x) (fun it s₂ => ∃ I fp wr n P St bt, it = .ref I ∧ Walks prog w A.in1 I fp wr n P St ∧ St 0 s₂.heap ∧ (∀ b ∈ fp, b < s₂.heap.objs.size) ∧ 0 < n ∧ CmpAt prog w A.in1 .Lt P St bt ∧
      ∀ v h' tk, P (argBest bt (n - 1)) v → (∀ b o, b ∉ wr → s₂.heap.get? b = some o → h'.get? b = some o) → Q v { s₂ with heap := h', toks := tk }) E s) :
    wpAny (model prog w) A (call (.builtin "min") [x]) Q E s := by
  have nm : (toString "min" ++ toString ".loop" : String) = "min.loop" := by decide
  refine call_function_tree F.kind_min F.plain_min F.entry_min (F.args_min1 _) ?_
  show wpAny _ A.in1 (Builtin.Builtins.bindParams "min" ["key", "default"] 0 ⟨[], []⟩ >>= _) _ _ s
  refine wpAny_bind (wpAny_of_eq (show Builtin.Builtins.bindParams "min" ["key", "default"] 0 ⟨[], []⟩ = pure [none, none] from rfl) ?_)
  refine wpAny_bind (wpAny_pure ?_)
  refine wpAny_bind (wpAny_mono h (fun it s₂ h₂ => ?_) fun _ _ e => e)
  obtain ⟨I, fp, wr, n, P, St, bt, rfl, W, st, hfp, hn, hcmp, hQ⟩ := h₂
  refine wpAny_bind (wpAny_newObj_type ?_)
  have hSf : s₂.heap.objs.size ∉ fp := fun hm => Nat.lt_irrefl _ (hfp _ hm)
  rw [nm]
  refine wpAny_pure ⟨plainId_quiet F.plain_min_loop _, min_loopT0 W bt hcmp s₂.heap.objs.size hSf hn (W.frame _ _ _ st fun b _ o e => Heap.get?_push_of_some _ e) (Heap.get?_push_size _ rfl) fun v h' tk hP hk => ?_⟩
  exact hQ v h' tk hP fun b o hbw e => hk b o hbw (Nat.ne_of_lt (Heap.lt_size e)) (Heap.get?_push_of_some _ e)
end
/-! ### pairs -/
def ltP (p q : Int × Int) : Bool := decide (p.1 < q.1) || (decide (p.1 = q.1) && decide (p.2 < q.2))
theorem argBest_le {bt : Nat → Nat → Bool} : ∀ k, argBest bt k ≤ k
  | 0 => Nat.le_refl _
  | k + 1 => by
    have := argBest_le (bt := bt) k
    unfold argBest
    split <;> omega
theorem argBest_min {bt : Nat → Nat → Bool} (irr : ∀ i, bt i i = false) (tr : ∀ i j k, bt i j = true → bt j k = true → bt i k = true) : ∀ k j, j ≤ k → bt j (argBest bt k) = false
  | 0, j, h => by rw [Nat.le_zero.mp h]; exact irr 0
  | k + 1, j, h => by
    unfold argBest
    by_cases hb : bt (k + 1) (argBest bt k) = true
    · rw [if_pos hb]
      by_cases hj : j = k + 1
      · rw [hj]; exact irr _
      · cases q : bt j (k + 1) with
        | false => rfl
        | true =>
          have := argBest_min irr tr k j (by omega)
          rw [tr _ _ _ q hb] at this; cases this
    · rw [if_neg hb]
      by_cases hj : j = k + 1
      · rw [hj]; simpa using hb
      · exact argBest_min irr tr k j (by omega)
def isPair (h : Heap) (a : Addr) (p : Int × Int) : Prop := ∃ t u, h.IsTuple a #[.int p.1 t, .int p.2 u]
theorem isPair.kept {h h' : Heap} {a : Addr} {p : Int × Int} (x : isPair h a p) (k : ∀ o, h.get? a = some o → h'.get? a = some o) : isPair h' a p := by
  obtain ⟨t, u, o, e, c, n, d⟩ := x
  exact ⟨t, u, o, k o e, c, n, d⟩
theorem cmp_pair {prog : Program} {w : World} {A : Around} {s : Shared} {Q E : Value → Shared → Prop} {a b : Addr} {p q : Int × Int} (hu : A.units < cLine) (ha : isPair s.heap a p) (hb : isPair s.heap b q) (h : Q (.bool (ltP p q)) s) : wpAny (model prog w) A (richCompare .Lt (.ref a) (.ref b)) Q E s := by
  obtain ⟨t1, t2, h1⟩ := ha
  obtain ⟨u1, u2, h2⟩ := hb
  have R := Ob.RcOp.tuples_lt (A := A) (s := s) (e := fun j => decide ((if j = 0 then p.1 else p.2) = if j = 0 then q.1 else q.2)) (r := fun j => decide ((if j = 0 then p.1 else p.2) < if j = 0 then q.1 else q.2)) h1 h2 hu (fun j hj1 hj2 => by
      have z : ∀ x y : Int, (x == y) = decide (x = y) := fun x y => by
        by_cases e : x = y
        · rw [decide_eq_true e]; exact beq_iff_eq.mpr e
        · rw [decide_eq_false e]; exact beq_eq_false_iff_ne.mpr e
      have hj : j = 0 ∨ j = 1 := by simp at hj1; omega
      rcases hj with rfl | rfl
      · simpa [z] using SeqAt.EqAt.int_int (A := A.in1) (s := s) p.1 t1 q.1 u1
      · simpa [z] using SeqAt.EqAt.int_int (A := A.in1) (s := s) p.2 t2 q.2 u2) (fun j hj1 hj2 _ => by
      have hj : j = 0 ∨ j = 1 := by simp at hj1; omega
      rcases hj with rfl | rfl
      · exact Ob.RcOp.lt_int p.1 q.1 t1 u1
      · exact Ob.RcOp.lt_int p.2 q.2 t2 u2)
  refine R prog w E Q ?_
  have e : Ob.lexAt (fun j => decide ((if j = 0 then p.1 else p.2) = if j = 0 then q.1 else q.2)) (fun j => decide ((if j = 0 then p.1 else p.2) < if j = 0 then q.1 else q.2)) (decide ((#[Value.int p.1 t1, .int p.2 t2]).size < (#[Value.int q.1 u1, .int q.2 u2]).size)) 0 (min (#[Value.int p.1 t1, .int p.2 t2]).size (#[Value.int q.1 u1, .int q.2 u2]).size) = ltP p q := by
    show Ob.lexAt _ _ _ 0 2 = _
    simp only [Ob.lexAt, ltP]
    by_cases c1 : p.1 = q.1
    · by_cases c2 : p.2 = q.2
      · simp [c1, c2]
      · simp [c1, c2]
    · simp [c1]
  rw [e]
  exact h
/-- min of a list of pairs -/
theorem min_pairs {prog : Program} {w : World} {A : Around} {E : Value → Shared → Prop} {s : Shared} {l : Addr} {as : List Addr} {ps : List (Int × Int)} {Q : Value → Shared → Prop} (hh : A.handled = none) (hu : A.units + 1 < cLine)
    (hl : s.heap.IsList l (as.map Value.ref).toArray) (hp : Paired (fun a p => isPair s.heap a p) as ps) (hne : ps ≠ [])
    (h : ∀ h' tk (m : Nat) a p, (∀ b o, s.heap.get? b = some o → h'.get? b = some o) → as[m]? = some a → ps[m]? = some p → (∀ q ∈ ps, ltP q p = false) → Q (.ref a) { s with heap := h', toks := tk }) :
    wpAny (model prog w) A (call (.builtin "min") [.ref l]) Q E s := by
  have llt : l < s.heap.objs.size := by obtain ⟨_, e, _⟩ := hl; exact Heap.lt_size e
  have len : as.length = ps.length := hp.length
  have hget : ∀ {as : List Addr} {ps : List (Int × Int)}, Paired (fun a p => isPair s.heap a p) as ps → ∀ (i : Nat) a, as[i]? = some a → ∃ p, ps[i]? = some p ∧ isPair s.heap a p := by
    intro as ps hp
    induction hp with
    | nil => intro i a e; simp at e
    | cons r t ih =>
      intro i a e
      cases i with
      | zero => simp only [List.getElem?_cons_zero, Option.some.injEq] at e; subst e; exact ⟨_, rfl, r⟩
      | succ i => simpa using ih i a (by simpa using e)
  refine call_minT (wpAny_pyIter_list hl ?_)
  have hT : ∀ a ∈ as, isPair (s.heap.push { cls := .type "list_iterator", data := .fields #[.ref l, .int 0 0] }) a (((ps[as.idxOf a]?).getD (0, 0))) ∧ a < s.heap.objs.size := by
    intro a ha
    have hi : as[as.idxOf a]? = some a := by
      rw [List.getElem?_eq_getElem (List.idxOf_lt_length_of_mem ha), List.getElem_idxOf]
    obtain ⟨p, e, x⟩ := hget hp _ _ hi
    rw [e]
    obtain ⟨t, u, o, e1, _⟩ := id x
    exact ⟨x.kept fun o e => Heap.get?_push_of_some _ e, Heap.lt_size e1⟩
  have hT2 : ∀ (i : Nat) a p, as[i]? = some a → ps[i]? = some p → isPair (s.heap.push { cls := .type "list_iterator", data := .fields #[.ref l, .int 0 0] }) a p := by
    intro i a p e1 e2
    obtain ⟨p', e3, x⟩ := hget hp i a e1
    rw [e2] at e3; cases e3
    exact x.kept fun o e => Heap.get?_push_of_some _ e
  have W := walks_and (Walks.list (prog := prog) (w := w) (A := A.in1) hh s.heap.objs.size l (Nat.ne_of_lt llt) (as.map Value.ref).toArray) (fun h => ∀ (i : Nat) a p, as[i]? = some a → ps[i]? = some p → isPair h a p) as
    (fun h h' t k i a p e1 e2 => (t i a p e1 e2).kept fun o e => k a (List.mem_of_getElem? e1) o e) (fun b hb hw => by
      have q := (hT b hb).2
      rw [List.mem_singleton.mp hw] at q
      exact Nat.lt_irrefl _ q)
  refine ⟨s.heap.objs.size, _, _, _, _, _, fun i j => ltP ((ps[i]?).getD (0, 0)) ((ps[j]?).getD (0, 0)), rfl, W, ⟨⟨⟨_, Heap.get?_push_size _ rfl, rfl, rfl⟩, hl.push _⟩, hT2⟩, fun b hb => ?_, ?_, ?_, fun v h' tk hP hk => ?_⟩
  · show b < (s.heap.push _).objs.size
    rw [Heap.size_push]
    rcases List.mem_append.mp hb with hb | hb
    · rcases List.mem_cons.mp hb with rfl | hb
      · exact Nat.lt_succ_self _
      · rw [List.mem_singleton] at hb
        subst hb
        exact Nat.lt_succ_of_lt llt
    · exact Nat.lt_succ_of_lt (hT b hb).2
  · simp only [List.size_toArray, List.length_map, len]
    exact List.length_pos_iff.mpr hne
  · intro i j k vi vj s' Q' E' st hi hj hq
    have g : ∀ {i : Nat} {v : Value}, (as.map Value.ref).toArray[i]? = some v → ∃ a p, v = .ref a ∧ as[i]? = some a ∧ ps[i]? = some p := by
      intro i v e
      simp only [List.getElem?_toArray, List.getElem?_map, Option.map_eq_some_iff] at e
      obtain ⟨a, e1, e2⟩ := e
      obtain ⟨p, e3, _⟩ := hget hp i a e1
      exact ⟨a, p, e2.symm, e1, e3⟩
    obtain ⟨a, p, rfl, a1, p1⟩ := g hi
    obtain ⟨b, q, rfl, b1, q1⟩ := g hj
    refine cmp_pair (p := p) (q := q) hu (st.2 i a p a1 p1) (st.2 j b q b1 q1) ?_
    simpa only [p1, q1, Option.getD_some] using hq
  · simp only [List.getElem?_toArray, List.getElem?_map, Option.map_eq_some_iff] at hP
    obtain ⟨a, e1, rfl⟩ := hP
    obtain ⟨p, e3, _⟩ := hget hp _ a e1
    refine h h' tk _ a p (fun b o e => hk b o (fun hm => ?_) (Heap.get?_push_of_some _ e)) e1 e3 fun q hq => ?_
    · have q := Heap.lt_size e
      rw [List.mem_singleton.mp hm] at q
      exact Nat.lt_irrefl _ q
    · obtain ⟨j, hj, rfl⟩ := List.mem_iff_getElem.mp hq
      have irr : ∀ x : Int × Int, ltP x x = false := fun x => by simp [ltP]
      have tr : ∀ x y z : Int × Int, ltP x y = true → ltP y z = true → ltP x z = true := fun x y z h1 h2 => by
        simp only [ltP, Bool.or_eq_true, Bool.and_eq_true, decide_eq_true_eq] at *
        omega
      have := argBest_min (bt := fun i j => ltP ((ps[i]?).getD (0, 0)) ((ps[j]?).getD (0, 0))) (fun i => irr _) (fun i j k => tr _ _ _) ((as.map Value.ref).toArray.size - 1) j (by simp [len]; omega)
      simp only [e3, Option.getD_some, List.getElem?_eq_getElem hj] at this
      exact this
end Ev
/-! Part C2: sorted of a tuple of ints. -/
namespace Ev
open PySem PySem.Spec PyProof.Rows L2
section
variable {prog : Program} {w : World} {A : Around} {E : Value → Shared → Prop} {s : Shared}
theorem collect_tup {l : Addr} {vs : List Value} {Q : List Value → Shared → Prop} (hl : s.heap.IsTuple l vs.toArray) (h : Q vs { s with heap := (s.heap.push (seqObj "list" #[] 0)).update s.heap.objs.size (Obj.mapSeq (· ++ vs.toArray)) }) (hsz : vs.length ≤ sizeLine) :
    wpAny (model prog w) A (collect (.ref l)) Q E s := by
  obtain ⟨o, ho, hc, n, hd⟩ := id hl
  unfold collect
  refine wpAny_bind (wpAny_runValue (codeAny_builtin entry_proto_collect' ?_))
  show wpAny _ _ (do again (.builtin "list.__iadd__" ⟨[← newList [], .ref l], []⟩)) _ _ s
  refine wpAny_bind (wpAny_newList (wpAny_pure ⟨Code.quiet_builtin _ (by decide +kernel), codeAny_builtin entry_list_iadd' ?_⟩))
  show wpAny _ _ (Builtin.List.listExtendWith (.ref s.heap.objs.size) (.ref l) (.ref s.heap.objs.size)) _ _ { s with heap := s.heap.push (seqObj "list" #[] 0) }
  unfold Builtin.List.listExtendWith
  have ho' : (s.heap.push (seqObj "list" #[] 0)).get? l = some o := Heap.get?_push_of_some _ ho
  refine wpAny_bind (wpAny_typeOf (T := "tuple") ⟨o, ho', hc⟩ ?_)
  have ht : (Value.type "tuple" == Value.type "tuple") = true := by rfl
  rw [if_pos (by rw [ht]; simp)]
  refine wpAny_bind (listItems_at ho' hd ?_)
  refine wpAny_bind (listItems_at (xs := #[]) (n := 0) (Heap.get?_push_size _ rfl) rfl ?_)
  rw [if_neg (by simp)]
  refine wpAny_bind (listUpdate_at (xs := #[]) (n := 0) (Heap.get?_push_size _ rfl) rfl ?_ (Nat.zero_le _) (by show (#[] ++ vs.toArray).size ≤ sizeLine + 1; simp only [Array.size_append, List.size_toArray, List.length_nil]; omega))
  refine wpAny_pure ?_
  show wpAny (model prog w) A (do
      let o ← load s.heap.objs.size
      match o.data with
      | .seq xs _ => pure xs.toList
      | _ => unsupported "internal:collect") Q E { s with heap := (s.heap.push (seqObj "list" #[] 0)).update s.heap.objs.size (Obj.mapSeq (· ++ vs.toArray)) }
  refine wpAny_bind (wpAny_load (get?_update_seq (Heap.get?_push_size _ rfl) _) ?_)
  show wpAny _ _ (pure ((#[] : Array Value) ++ vs.toArray).toList) Q E _
  rw [show ((#[] : Array Value) ++ vs.toArray).toList = vs by simp]
  exact wpAny_pure h
open SrtO in
theorem sorted_ordT {l : Addr} {vs : List Value} {ltv : Value → Value → Bool} {Q : Value → Shared → Prop} (O : Swo ltv) (hl : s.heap.IsTuple l vs.toArray) (hz : vs.length ≤ sizeLine)
    (hS : 2 ≤ vs.length → ∀ (h₁ : Heap) (a : Addr), h₁.get? a = some (seqObj "list" vs.toArray 0) → (∀ b o, s.heap.get? b = some o → b ≠ a ∧ h₁.get? b = some o) → SortableO prog w A.in1.in1 { s with heap := h₁ } a vs ltv)
    (h : ∀ out : List Value, Srtd ltv out → Stb ltv out vs → Q (.ref (s.heap.objs.size + 1)) { s with heap := sortedAll s.heap vs out.toArray }) :
    wpAny (model prog w) A (call (.builtin "sorted") [.ref l]) Q E s := by
  refine Calls.call_function_entry kind_sorted plain_sorted entry_sorted (args_sorted1 _) ?_
  unfold Builtin.«sorted»
  refine wpAny_bind (m := checkCount "sorted" 1 1 _) (wpAny_pure ?_)
  refine wpAny_bind (collect_tup hl ?_ hz)
  refine wpAny_bind (wpAny_newList ?_ hz)
  have hsz : ((s.heap.push (seqObj "list" #[] 0)).update s.heap.objs.size (Obj.mapSeq (· ++ vs.toArray))).objs.size = s.heap.objs.size + 1 := by
    rw [Heap.size_update, size_push']
  have hoL : (((s.heap.push (seqObj "list" #[] 0)).update s.heap.objs.size (Obj.mapSeq (· ++ vs.toArray))).push (seqObj "list" vs.toArray 0)).get? (s.heap.objs.size + 1) = some (seqObj "list" vs.toArray 0) := by
    rw [← hsz]; exact Heap.get?_push_size _ rfl
  have keep : ∀ b o, s.heap.get? b = some o → b ≠ s.heap.objs.size + 1 ∧ (((s.heap.push (seqObj "list" #[] 0)).update s.heap.objs.size (Obj.mapSeq (· ++ vs.toArray))).push (seqObj "list" vs.toArray 0)).get? b = some o := fun b o q => by
    have hlt : b < s.heap.objs.size := Heap.lt_size q
    refine ⟨Nat.ne_of_lt (Nat.lt_succ_of_lt hlt), Heap.get?_push_of_some _ ?_⟩
    rw [Heap.get?_update_ne _ _ _ _ (Nat.ne_of_lt hlt)]
    exact Heap.get?_push_of_some _ q
  show wpAny _ _ _ _ _ { s with heap := ((s.heap.push (seqObj "list" #[] 0)).update s.heap.objs.size (Obj.mapSeq (· ++ vs.toArray))).push (seqObj "list" vs.toArray 0) }
  rw [hsz]
  refine wpAny_bind (wpAny_holding (wpAny_call_entry slot_list_sort ⟨_, hoL, rfl⟩ entry_list_sort (list_sort_ord O hoL hz (fun h2 => hS h2 _ _ hoL keep) fun out hs hb => ⟨_, rfl, ?_⟩) (args_list_sort _)))
  exact wpAny_pure ⟨_, rfl, h out hs hb⟩
end
def rSortedIT (K : PySem.W.Frag) : List V → Hp → VK → Prop := fun vs H Q => ∃ (a : Addr) (ns : List Int), vs = [V.ref a] ∧ (SqL K H a (ns.map V.int) ∨ SqT K H a (ns.map V.int)) ∧ ∀ (ns' : List Int) (p : Addr), ns'.Perm ns → ns'.Pairwise (· ≤ ·) → H p = none → Q (.ref p) (upd H p (.lst (ns'.map V.int)))
theorem cr_sortedIT {X : Cx} : CallR X (.builtin "sorted") (rSortedIT X.K) := by
  intro pins s σ H vs us Q I r h
  obtain ⟨a, ns, rfl, hs, q⟩ := h
  rcases hs with hs | hs
  · exact cr_sortedI pins s σ H _ us Q I r ⟨a, ns, rfl, hs, q⟩
  · obtain ⟨its, rv, hl, hz⟩ := I.tuple hs
    rw [Vals.ref1 r]
    have hi := rv.ints
    refine sorted_ordT SrtO.swo_int (show s.heap.IsTuple a its.toArray from hl) (by rw [← rv.length]; exact hz) (fun h2 h₁ a' _ _ => SrtO.ints_sortable hi h2) fun out h1 h2 => ?_
    obtain ⟨k1, k2, k3⟩ := SrtO.ints_out hi h1 h2
    obtain ⟨ep, he'⟩ := PyProof.Rows.sortedAll_at s.heap its out.toArray
    have hlen : ((out.map SrtO.iv).map V.int).length ≤ sizeLine := by
      rw [List.length_map, k2.length_eq]
      rw [List.length_map] at hz
      exact hz
    exact ⟨.ref _, upd H (s.heap.objs.size + 1) (.lst ((out.map SrtO.iv).map V.int)), I.laid (t' := s.toks) (fun _ _ => PyProof.Rows.sortedAll_old) (Nat.le_succ _) ⟨hlen, out, ep, vals_of_ints k1, he'⟩, rfl, q _ _ k2 k3 (I.hok.fresh (Nat.le_succ _))⟩
end Ev
/-! Part D: subscripts, slices, dicts, calls of built-ins on trees. -/
namespace Ev
open PySem PySem.Spec PyProof.Rows L2

section
variable {K : PySem.W.Frag} {mg : Str → Option Value} {H : Hp} {Zp : Addr → Prop} {Q : VK}

/-! ### places -/
theorem Reps.atI {vs : List V} {ds : List D} {i : Int} {d : D} (r : Reps K mg H Zp vs ds) (e : atI ds i = some d) : ∃ v, L2.atI vs i = some v ∧ Rep K mg H Zp v d := by
  unfold L2.atI at e ⊢
  rw [r.length]
  cases q : ixN ds.length i with
  | none => rw [q] at e; cases e
  | some j => rw [q] at e; exact r.get e
def ixD : D → D → Option D
  | .str s, .int i => if s.length ≤ sizeLine then (L2.atI s.cps.toList i).map fun c => .str ⟨#[c]⟩ else none
  | d, .int i => d.items.bind fun ds => L2.atI ds i
  | _, _ => none
theorem os_ix : OpS K mg (rIx K) ixD := by
  intro H Zp v u d e z Q zd rv ru hg hq
  unfold ixD at hg
  split at hg
  · split at hg
    · rename_i s i hl
      cases q : L2.atI s.cps.toList i with
      | none => rw [q] at hg; cases hg
      | some c =>
        rw [q] at hg; cases hg
        exact .inr (.inr ⟨s, i, c, rv.str, ru.int, hl, q, hq.str⟩)
    · cases hg
  · rename_i i _
    cases q : d.items with
    | none => rw [q] at hg; cases hg
    | some ds =>
      rw [q] at hg
      have hg : L2.atI ds i = some z := hg
      obtain ⟨p, vs, rfl, hp, rp⟩ := rv.seq q
      obtain ⟨x, e1, e2⟩ := rp.atI hg
      rcases hp with hp | hp
      · exact .inl ⟨p, vs, i, x, rfl, ru.int, hp, e1, hq.same e2⟩
      · exact .inr (.inl ⟨p, vs, i, x, rfl, ru.int, hp, e1, hq.same e2⟩)
  · cases hg

/-! ### slices -/
def cut {α : Type} (xs : List α) (lo hi : Option Int) : List α := (xs.drop (HT.sIx xs.length 0 lo)).take (HT.sIx xs.length xs.length hi - HT.sIx xs.length 0 lo)
theorem Reps.cut {vs : List V} {ds : List D} (r : Reps K mg H Zp vs ds) (lo hi : Option Int) : Reps K mg H Zp (cutV vs lo hi) (Ev.cut ds lo hi) := by
  unfold cutV Ev.cut
  rw [r.length]
  exact (r.drop _).take _
theorem cut_whole {α : Type} {xs : List α} {lo hi : Option Int} (h : HT.sIx xs.length 0 lo = 0 ∧ HT.sIx xs.length xs.length hi = xs.length) : cut xs lo hi = xs := by
  unfold cut
  rw [h.1, h.2, List.drop_zero, Nat.sub_zero, List.take_length]
def slD (d : D) (lo hi : Option Int) : Option D := match d with
  | .str s => if s.length ≤ sizeLine then some (.str (cutS s lo hi)) else none
  | .tup xs => some (.tup (cut xs lo hi))
  | .lst xs => some (.lst (cut xs lo hi))
  | .rls xs => some (.lst (cut xs lo hi))
  | _ => none
def slF (d : D) (lo hi : Option Int) : Option O := match d with
  | .lst xs => some (.lst (cut xs lo hi))
  | .rls xs => some (.lst (cut xs lo hi))
  | _ => none

def rSlAll (K : PySem.W.Frag) : V → Option Int → Option Int → Hp → VK → Prop := fun x lo hi H Q => rSlS x lo hi H Q ∨ rSlS' K x lo hi H Q ∨ rSlL K x lo hi H Q
theorem sl_all {X : Cx} : SlR X (rSlAll X.K) := SlR.or sl_str (SlR.or sl_tupS sl_list)
theorem ss_sl {v : V} {d z : D} {lo hi : Option Int} (zd : ZD H Zp) (rv : RepB K mg H Zp v d) (hg : slD d lo hi = some z) (hq : AftD K mg H Zp z Q) : rSlAll K v lo hi H Q := by
  unfold slD at hg
  split at hg
  · split at hg
    · rename_i s hl
      cases hg
      exact .inl ⟨s, rv.str, hl, hq.str⟩
    · cases hg
  · rename_i xs
    cases hg
    obtain ⟨a, vs, rfl, ha, ra⟩ := rv.tupP
    refine .inr (.inl ⟨a, vs, rfl, ha.sqT, fun hw => ?_, hq.tup (ra.cut lo hi)⟩)
    rw [ra.length] at hw
    rw [cut_whole hw] at hq
    exact hq.same (.tup ha ra)
  · cases hg
    obtain ⟨a, vs, rfl, ha, ra⟩ := rv.lstI
    exact .inr (.inr ⟨a, vs, rfl, SqL.of ha, hq.lst zd (ra.cut lo hi)⟩)
  · cases hg
    obtain ⟨a, vs, rfl, ha, ra⟩ := rv.rlsI
    exact .inr (.inr ⟨a, vs, rfl, ha.sqL, hq.lst zd (ra.cut lo hi)⟩)
  · cases hg
theorem ss_slF {v : V} {d : D} {z : O} {lo hi : Option Int} (rv : RepB K mg H Zp v d) (hg : slF d lo hi = some z) (hq : AftO K mg H Zp z Q) : rSlAll K v lo hi H Q := by
  unfold slF at hg
  split at hg
  · cases hg
    obtain ⟨a, vs, rfl, ha, ra⟩ := rv.lstI
    exact .inr (.inr ⟨a, vs, rfl, SqL.of ha, hq.lst (ra.cut lo hi)⟩)
  · cases hg
    obtain ⟨a, vs, rfl, ha, ra⟩ := rv.rlsI
    exact .inr (.inr ⟨a, vs, rfl, ha.sqL, hq.lst (ra.cut lo hi)⟩)
  · cases hg

/-! ### xs[::-1] -/
def rvD : D → Option D
  | .tup xs => some (.tup xs.reverse)
  | .lst xs => some (.lst xs.reverse)
  | .rls xs => some (.lst xs.reverse)
  | _ => none
def rRev (K : PySem.W.Frag) : V → Hp → VK → Prop := fun x H Q => (∃ a xs, x = .ref a ∧ SqL K H a xs ∧ ∀ p, H p = none → Q (.ref p) (upd H p (.lst xs.reverse))) ∨ (∃ a xs, x = .ref a ∧ SqT K H a xs ∧ NewT xs.reverse H Q)
theorem us_rev : UnS K mg (rRev K) rvD := by
  intro H Zp v d z Q zd rv hg hq
  unfold rvD at hg
  split at hg
  · cases hg
    obtain ⟨a, vs, rfl, ha, ra⟩ := rv.tupI
    exact .inr ⟨a, vs, rfl, ha, hq.tup ra.rev⟩
  · cases hg
    obtain ⟨a, vs, rfl, ha, ra⟩ := rv.lstI
    exact .inl ⟨a, vs, rfl, SqL.of ha, hq.lst zd ra.rev⟩
  · cases hg
    obtain ⟨a, vs, rfl, ha, ra⟩ := rv.rlsI
    exact .inl ⟨a, vs, rfl, ha.sqL, hq.lst zd ra.rev⟩
  · cases hg

/-! ### dicts -/
def D.key : D → Option Key
  | .int i => some (.inl i)
  | .str s => some (.inr s)
  | _ => none
theorem RepB.key {v : V} {d : D} {k : Key} (r : RepB K mg H Zp v d) (e : d.key = some k) : v = kV k := by
  unfold D.key at e
  split at e
  · cases e; exact r.int
  · cases e; exact r.str
  · cases e
def valD : List Key → List D → Key → Option D
  | k :: ks, d :: ds, x => if k = x then some d else valD ks ds x
  | _, _, _ => none
theorem valV_cons {k x : Key} {v : V} {kvs : List (Key × V)} : valV ((k, v) :: kvs) x = if k = x then some v else valV kvs x := by
  unfold valV
  rw [List.find?_cons]
  by_cases h : k = x
  · simp [h]
  · simp [h]
theorem valD_rep : ∀ {kvs : List (Key × V)} {ks : List Key} {ds : List D} {x : Key}, kvs.map (·.1) = ks → Reps K mg H Zp (kvs.map (·.2)) ds →
    (∀ d, valD ks ds x = some d → ∃ v, valV kvs x = some v ∧ Rep K mg H Zp v d) ∧ (valD ks ds x = none → valV kvs x = none)
  | [], _, _, _, e, r => by
    subst e
    cases r
    exact ⟨fun d h => by simp [valD] at h, fun _ => rfl⟩
  | (k, v) :: kvs, _, _, x, e, r => by
    subst e
    cases r with
    | cons r t =>
      rename_i d ds
      have ih := valD_rep (x := x) rfl t
      rw [valV_cons]
      simp only [List.map_cons, valD]
      by_cases h : k = x
      · simp only [h, if_true]
        exact ⟨fun d' e => by cases e; exact ⟨v, rfl, r⟩, fun e => by cases e⟩
      · simp only [h, if_false]
        exact ih
/-- d[k]; d.get(k, x); k in d -/
def dgetD : D → D → Option D
  | .dct ks ds, k => k.key.bind fun x => valD ks ds x
  | _, _ => none
/-- a[k] of lists, tuples, texts, dicts -/
def ixE (d e : D) : Option D := match d with
  | .dct ks ds => e.key.bind fun x => valD ks ds x
  | _ => ixD d e
def rIxE (K : PySem.W.Frag) : R2 := fun x y H Q => rIx K x y H Q ∨ ∃ a v, x = .ref a ∧ DGet H a y (some v) ∧ Q v H
theorem ix_E {X : Cx} (hu : X.A.units + 1 < cLine) : IxR X (rIxE X.K) := IxR.or ix_seq (by
  intro value slice pins s σ H x y v u Q I rx ry h hs
  obtain ⟨a, z, rfl, g, q⟩ := h
  cases rx
  exact tail_any (dict_typeIs I g) PySem.F.slot_dict_getitem.lookup (d_getItem hu I g ry fun w' s3 I3 rw' => ⟨z, H, I3, rw', q⟩) hs)
theorem dget_rep {v u : V} {ks : List Key} {ds : List D} {e : D} {k : Key} (rv : RepB K mg H Zp v (.dct ks ds)) (ru : RepB K mg H Zp u e) (hk : e.key = some k) :
    ∃ a kvs, v = .ref a ∧ H a = some (.dK kvs) ∧ DGet H a u (valV kvs k) ∧ (∀ d, valD ks ds k = some d → ∃ w, valV kvs k = some w ∧ Rep K mg H Zp w d) ∧ (valD ks ds k = none → valV kvs k = none) := by
  obtain ⟨a, kvs, rfl, h, e1, r⟩ := rv.dctI
  refine ⟨a, kvs, rfl, h, ?_, valD_rep e1 r⟩
  rw [ru.key hk]
  exact DGet.k h
theorem os_ixE : OpS K mg (rIxE K) ixE := by
  intro H Zp v u d e z Q zd rv ru hg hq
  unfold ixE at hg
  split at hg
  · rename_i ks ds
    cases hk : e.key with
    | none => rw [hk] at hg; cases hg
    | some k =>
      rw [hk] at hg
      obtain ⟨a, kvs, rfl, h, g, h1, h2⟩ := dget_rep rv ru hk
      obtain ⟨w, e1, r⟩ := h1 z hg
      rw [e1] at g
      exact .inr ⟨a, w, rfl, g, hq.same r⟩
  · exact .inl (os_ix H Zp v u d e z Q zd rv ru hg hq)
/-- k in x -/
def inE (d e : D) : Option Bool := match e with
  | .dct ks ds => d.key.map fun x => (valD ks ds x).isSome
  | _ => inB d e
def inDE (d e : D) : Option D := (inE d e).map .bl
def ninDE (d e : D) : Option D := (inE d e).map fun b => .bl (!b)
def rIn3 (K : PySem.W.Frag) : R2 := fun x y H Q => rIn2 K x y H Q ∨ ∃ a o, y = .ref a ∧ DGet H a x o ∧ Q (.bl o.isSome) H
def rNin3 (K : PySem.W.Frag) : R2 := fun x y H Q => rNin2 K x y H Q ∨ ∃ a o, y = .ref a ∧ DGet H a x o ∧ Q (.bl (!o.isSome)) H
theorem or_in3 {X : Cx} (hu : X.A.units + 1 < cLine) : OpR X (compareOp .In) (rIn3 X.K) := or_in.or (by
  intro pins s σ H x y v u Q I rx ry h
  obtain ⟨a, o, rfl, g, q⟩ := h
  cases ry
  exact d_in hu I g rx fun s3 I3 => ⟨.bl o.isSome, H, I3, rfl, q⟩)
theorem or_nin3 {X : Cx} (hu : X.A.units + 1 < cLine) : OpR X (compareOp .NotIn) (rNin3 X.K) := or_nin.or (by
  intro pins s σ H x y v u Q I rx ry h
  obtain ⟨a, o, rfl, g, q⟩ := h
  cases ry
  exact d_notIn hu I g rx fun s3 I3 => ⟨.bl (!o.isSome), H, I3, rfl, q⟩)
theorem inE_dct {v u : V} {d : D} {ks : List Key} {ds : List D} {b : Bool} (rv : RepB K mg H Zp v d) (ru : RepB K mg H Zp u (.dct ks ds)) (h : (d.key.map fun x => (valD ks ds x).isSome) = some b) : ∃ a o, u = .ref a ∧ DGet H a v o ∧ o.isSome = b := by
  cases hk : d.key with
  | none => rw [hk] at h; cases h
  | some k =>
    rw [hk] at h
    simp only [Option.map_some, Option.some.injEq] at h
    obtain ⟨a, kvs, rfl, _, g, h1, h2⟩ := dget_rep ru rv hk
    refine ⟨a, _, rfl, g, ?_⟩
    cases q : valD ks ds k with
    | none => rw [h2 q, ← h, q]; rfl
    | some d' => obtain ⟨w, e1, _⟩ := h1 d' q; rw [e1, ← h, q]; rfl
theorem os_in3 : OpS K mg (rIn3 K) inDE := by
  intro H Zp v u d e z Q zd rv ru hg hq
  unfold inDE inE at hg
  split at hg
  · rename_i ks ds
    cases q : (d.key.map fun x => (valD ks ds x).isSome) with
    | none => rw [q] at hg; cases hg
    | some b =>
      rw [q] at hg; cases hg
      obtain ⟨a, o, rfl, g, e⟩ := inE_dct rv ru q
      exact .inr ⟨a, o, rfl, g, by rw [e]; exact hq.bl⟩
  · exact .inl (os_in H Zp v u d e z Q zd rv ru hg hq)
theorem os_nin3 : OpS K mg (rNin3 K) ninDE := by
  intro H Zp v u d e z Q zd rv ru hg hq
  unfold ninDE inE at hg
  split at hg
  · rename_i ks ds
    cases q : (d.key.map fun x => (valD ks ds x).isSome) with
    | none => rw [q] at hg; cases hg
    | some b =>
      rw [q] at hg; cases hg
      obtain ⟨a, o, rfl, g, e⟩ := inE_dct rv ru q
      exact .inr ⟨a, o, rfl, g, by rw [e]; exact hq.bl⟩
  · exact .inl (os_nin H Zp v u d e z Q zd rv ru hg hq)
def dget2D : D → D → D → Option D
  | .dct ks ds, k, z => k.key.map fun x => (valD ks ds x).getD z
  | _, _, _ => none
def dinB : D → D → Option Bool
  | k, .dct ks ds => k.key.map fun x => (valD ks ds x).isSome
  | _, _ => none
/-- d[k] = x: in its place, or at the end -/
def putDs : List Key → List D → Key → D → List D
  | k' :: ks, d' :: ds, k, d => (if k' = k then d else d') :: putDs ks ds k d
  | _, ds, _, _ => ds
def dputD (ks : List Key) (ds : List D) (k : Key) (d : D) : List Key × List D :=
  if (ks.any fun x => decide (x = k)) = true then (ks, putDs ks ds k d) else (ks ++ [k], ds ++ [d])
theorem putDs_rep {k : Key} {v : V} {d : D} (r : Rep K mg H Zp v d) : ∀ {kvs : List (Key × V)} {ds : List D}, Reps K mg H Zp (kvs.map (·.2)) ds →
    Reps K mg H Zp ((kvs.map fun kv => if kv.1 = k then (kv.1, v) else kv).map (·.2)) (putDs (kvs.map (·.1)) ds k d)
  | [], _, .nil => .nil
  | p :: kvs, _, .cons q t => by
    rw [List.map_cons, List.map_cons, List.map_cons]
    show Reps K mg H Zp _ ((if p.1 = k then d else _) :: putDs _ _ k d)
    by_cases h : p.1 = k
    · rw [if_pos h, if_pos h]; exact .cons r (putDs_rep r t)
    · rw [if_neg h, if_neg h]; exact .cons q (putDs_rep r t)
theorem dputD_rep {k : Key} {v : V} {d : D} {kvs : List (Key × V)} {ks : List Key} {ds : List D} (e : kvs.map (·.1) = ks) (t : Reps K mg H Zp (kvs.map (·.2)) ds) (r : Rep K mg H Zp v d) :
    (putK kvs k v).map (·.1) = (dputD ks ds k d).1 ∧ Reps K mg H Zp ((putK kvs k v).map (·.2)) (dputD ks ds k d).2 := by
  subst e
  unfold putK dputD
  have ea : ((kvs.map (·.1)).any fun x => decide (x = k)) = kvs.any fun kv => decide (kv.1 = k) := by rw [List.any_map]; rfl
  rw [ea]
  split
  · refine ⟨?_, putDs_rep r t⟩
    rw [List.map_map]
    apply List.map_congr_left
    intro p _
    show (if p.1 = k then (p.1, v) else p).1 = p.1
    split <;> rfl
  · rw [List.map_append, List.map_append]
    exact ⟨rfl, t.append (.cons r .nil)⟩
def mergeD (ks : List Key) (ds : List D) : List (Key × D) → List Key × List D
  | [] => (ks, ds)
  | (k, d) :: r => mergeD (dputD ks ds k d).1 (dputD ks ds k d).2 r
theorem mergeD_rep : ∀ {more : List (Key × V)} {ps : List (Key × D)} {kvs : List (Key × V)} {ks : List Key} {ds : List D}, more.map (·.1) = ps.map (·.1) → Reps K mg H Zp (more.map (·.2)) (ps.map (·.2)) → kvs.map (·.1) = ks → Reps K mg H Zp (kvs.map (·.2)) ds →
    (mergeK kvs more).map (·.1) = (mergeD ks ds ps).1 ∧ Reps K mg H Zp ((mergeK kvs more).map (·.2)) (mergeD ks ds ps).2
  | [], [], _, _, _, _, _, e, t => ⟨e, t⟩
  | [], _ :: _, _, _, _, e, _, _, _ => by cases e
  | _ :: _, [], _, _, _, e, _, _, _ => by cases e
  | (k, v) :: more, (k', d) :: ps, _, _, _, e1, .cons r q, e, t => by
    simp only [List.map_cons, List.cons.injEq] at e1
    obtain ⟨rfl, e1⟩ := e1
    obtain ⟨h1, h2⟩ := dputD_rep (k := k) e t r
    have := mergeD_rep e1 q h1 h2
    exact this
/-- pairs (key, value) -/
def pairsD : List D → Option (List (Key × D))
  | [] => some []
  | .tup [k, d] :: r => match k.key, pairsD r with
    | some x, some ps => some ((x, d) :: ps)
    | _, _ => none
  | _ => none
def dictF : List D → Option O
  | [d] => d.items.bind fun ds => (pairsD ds).map fun ps => .dct (mergeD [] [] ps).1 (mergeD [] [] ps).2
  | _ => none
theorem pairsD_rep : ∀ {vs : List V} {ds : List D} {ps : List (Key × D)}, Reps K mg H Zp vs ds → pairsD ds = some ps →
    ∃ (as : List Addr) (kvs : List (Key × V)), vs = as.map V.ref ∧ Paired (fun p kv => SqT K H p [kV kv.1, kv.2]) as kvs ∧ kvs.map (·.1) = ps.map (·.1) ∧ Reps K mg H Zp (kvs.map (·.2)) (ps.map (·.2))
  | _, _, _, .nil, e => by cases e; exact ⟨[], [], rfl, .nil, rfl, .nil⟩
  | _, _, ps, .cons (d := d0) (ds := ds) r t, e => by
    unfold pairsD at e
    split at e
    · rename_i heq; cases heq
    · rename_i d0' k d rr heq
      injection heq with h1 h2
      subst h1 h2
      cases hk : k.key with
      | none => rw [hk] at e; cases e
      | some x =>
        cases hp : pairsD ds with
        | none => rw [hk, hp] at e; cases e
        | some qs =>
          rw [hk, hp] at e; cases e
          obtain ⟨as, kvs, rfl, h1, h2, h3⟩ := pairsD_rep t hp
          cases r with
          | tup h q =>
            rename_i a us
            cases q with
            | cons q1 q2 =>
              cases q2 with
              | cons q2 q3 =>
                cases q3
                rename_i v1 v2
                rw [(RepB.full q1).key hk] at h
                exact ⟨a :: as, (x, v2) :: kvs, rfl, .cons h.sqT h1, by simp [h2], .cons q2 h3⟩
    · cases e
def rDictP (K : PySem.W.Frag) : List V → Hp → VK → Prop := fun xs H Q => ∃ (a : Addr) (vs : List V) (ps : List Addr) (kvs : List (Key × V)), xs = [.ref a] ∧ (SqL K H a vs ∨ PlT K H a vs) ∧ vs = ps.map V.ref ∧ Paired (fun p kv => SqT K H p [kV kv.1, kv.2]) ps kvs ∧ ∀ p, H p = none → Q (.ref p) (upd H p (.dK (mergeK [] kvs)))
/-! ### calls of built-ins -/
def D.tyn : D → Option T7
  | .int _ => some .int | .bl _ => some .bool | .str _ => some .str | .tup _ => some .tup | .lst _ => some .lst | .rls _ => some .lst | .dct _ _ => some .dct | .non => some .non
  | _ => none
def isT (t n : T7) : Bool := decide (t = n) || (decide (t = .bool) && decide (n = .int))
theorem isT_kit : ∀ t n : T7, n ≠ .non → kitB t.name n.name = some (isT t n) := by
  intro t n h
  cases t <;> cases n <;> first | exact absurd rfl h | decide +kernel
def isiD : List D → Option D
  | [d, .ty n] => if n = .non then none else d.tyn.map fun t => .bl (isT t n)
  | _ => none
theorem RepB.tyX {v : V} {d : D} {t : T7} (r : RepB K mg H Zp v d) (e : d.tyn = some t) : TyX K H v (.type t.name) := by
  unfold D.tyn at e
  split at e
  · cases e; rw [r.int]; exact .base (.int _)
  · cases e; rw [r.bl]; exact .base (.bl _)
  · cases e; rw [r.str]; exact .base (.str _)
  · cases e
    obtain ⟨a, vs, rfl, ⟨o, h, _⟩ | ⟨o, its, n, h, hc, _⟩, _⟩ := r.tupP
    · exact .fTuple h
    · exact .kTuple h hc
  · cases e
    obtain ⟨a, vs, rfl, h, _⟩ := r.lstI
    exact .base (.lst h)
  · cases e
    obtain ⟨a, vs, rfl, ⟨o, h⟩ | ⟨o, its, n, h, hc, _⟩, _⟩ := r.rlsI
    · exact .base (.frz h)
    · exact .kList h hc
  · cases e
    obtain ⟨a, vs, rfl, h, _⟩ := r.dctI
    exact .base (.dK h)
  · cases e; rw [r.non]; exact .base .non
  · cases e
theorem RepBs.one {vs : List V} {d : D} (r : RepBs K mg H Zp vs [d]) : ∃ v, vs = [v] ∧ RepB K mg H Zp v d := by
  cases r with | cons r t => cases t; exact ⟨_, rfl, r⟩
theorem RepBs.two {vs : List V} {d e : D} (r : RepBs K mg H Zp vs [d, e]) : ∃ v u, vs = [v, u] ∧ RepB K mg H Zp v d ∧ RepB K mg H Zp u e := by
  cases r with | cons r t => obtain ⟨u, rfl, q⟩ := t.one; exact ⟨_, _, rfl, r, q⟩
theorem cs_isi : CaS K mg (rIsi K) isiD := by
  intro H Zp vs ds z Q zd r hg hq
  unfold isiD at hg
  split at hg
  · rename_i d n
    split at hg
    · cases hg
    · rename_i hn
      obtain ⟨v, u, rfl, r1, r2⟩ := r.two
      cases e : d.tyn with
      | none => rw [e] at hg; cases hg
      | some t =>
        rw [e] at hg; cases hg
        refine ⟨v, u, _, _, isT t n, rfl, ?_, r1.tyX e, kit_ty (isT_kit t n hn), hq.bl⟩
        rw [r2.ty]
        exact .ty _
  · cases hg
/-- len -/
def lenD : List D → Option D
  | [.str s] => if s.length ≤ sizeLine then some (.int s.length) else none
  | [.dct ks _] => some (.int ks.length)
  | [d] => d.items.map fun ds => .int ds.length
  | _ => none
def rLen3 (K : PySem.W.Frag) : List V → Hp → VK → Prop := fun xs H Q => (∃ p ys, xs = [.ref p] ∧ (SqL K H p ys ∨ SqT K H p ys) ∧ Q (.int ys.length) H) ∨ (∃ z, xs = [.str z] ∧ z.length ≤ sizeLine ∧ Q (.int z.length) H) ∨ ∃ a kvs, xs = [V.ref a] ∧ H a = some (.dK kvs) ∧ Q (.int kvs.length) H
theorem cr_len {X : Cx} : CallR X (.builtin "len") (rLen3 X.K) := CallR.or call_len_seq (CallR.or call_len_str call_lenD)
theorem cs_len : CaS K mg (rLen3 K) lenD := by
  intro H Zp vs ds z Q zd r hg hq
  unfold lenD at hg
  split at hg
  · split at hg
    · cases hg
      obtain ⟨v, rfl, r1⟩ := r.one
      exact .inr (.inl ⟨_, by rw [r1.str], by assumption, hq.int⟩)
    · cases hg
  · cases hg
    obtain ⟨v, rfl, r1⟩ := r.one
    obtain ⟨a, kvs, rfl, h, e, _⟩ := r1.dctI
    refine .inr (.inr ⟨a, kvs, rfl, h, ?_⟩)
    rw [← e, List.length_map] at hq
    exact hq.int
  · rename_i d _ _
    cases q : d.items with
    | none => rw [q] at hg; cases hg
    | some xs =>
      rw [q] at hg; cases hg
      obtain ⟨v, rfl, r1⟩ := r.one
      obtain ⟨p, vs, rfl, hp, rp⟩ := r1.seq q
      refine .inl ⟨p, vs, rfl, hp, ?_⟩
      rw [rp.length]
      exact hq.int
  · cases hg
def absD : List D → Option D
  | [.int i] => some (.int (if i < 0 then -i else i))
  | _ => none
theorem cs_abs : CaS K mg (fun xs H Q => ∃ i, xs = [.int i] ∧ Q (.int (if i < 0 then -i else i)) H) absD := by
  intro H Zp vs ds z Q zd r hg hq
  unfold absD at hg
  split at hg
  · cases hg
    obtain ⟨v, rfl, r1⟩ := r.one
    exact ⟨_, by rw [r1.int], hq.int⟩
  · cases hg
/-- the greatest, the least of ints -/
def mxI : List Int → Option Int
  | [] => none
  | x :: xs => some (xs.foldl max x)
def mnI : List Int → Option Int
  | [] => none
  | x :: xs => some (xs.foldl min x)
theorem foldl_max_ge : ∀ (xs : List Int) (x : Int), x ≤ xs.foldl max x ∧ ∀ y ∈ xs, y ≤ xs.foldl max x
  | [], x => ⟨Int.le_refl _, fun _ h => nomatch h⟩
  | a :: xs, x => by
    obtain ⟨h1, h2⟩ := foldl_max_ge xs (max x a)
    refine ⟨Int.le_trans (Int.le_max_left x a) h1, fun y hy => ?_⟩
    rcases List.mem_cons.mp hy with rfl | hy
    · exact Int.le_trans (Int.le_max_right x y) h1
    · exact h2 y hy
theorem foldl_max_mem : ∀ (xs : List Int) (x : Int), xs.foldl max x ∈ x :: xs
  | [], x => List.mem_singleton.mpr rfl
  | a :: xs, x => by
    have h := foldl_max_mem xs (max x a)
    show xs.foldl max (max x a) ∈ _
    rcases List.mem_cons.mp h with e | h
    · rw [e]
      rcases Int.le_total x a with q | q
      · rw [Int.max_eq_right q]; simp
      · rw [Int.max_eq_left q]; simp
    · exact List.mem_cons_of_mem _ (List.mem_cons_of_mem _ h)
theorem foldl_min_le : ∀ (xs : List Int) (x : Int), xs.foldl min x ≤ x ∧ ∀ y ∈ xs, xs.foldl min x ≤ y
  | [], x => ⟨Int.le_refl _, fun _ h => nomatch h⟩
  | a :: xs, x => by
    obtain ⟨h1, h2⟩ := foldl_min_le xs (min x a)
    refine ⟨Int.le_trans h1 (Int.min_le_left x a), fun y hy => ?_⟩
    rcases List.mem_cons.mp hy with rfl | hy
    · exact Int.le_trans h1 (Int.min_le_right x y)
    · exact h2 y hy
theorem foldl_min_mem : ∀ (xs : List Int) (x : Int), xs.foldl min x ∈ x :: xs
  | [], x => List.mem_singleton.mpr rfl
  | a :: xs, x => by
    have h := foldl_min_mem xs (min x a)
    show xs.foldl min (min x a) ∈ _
    rcases List.mem_cons.mp h with e | h
    · rw [e]
      rcases Int.le_total x a with q | q
      · rw [Int.min_eq_left q]; simp
      · rw [Int.min_eq_right q]; simp
    · exact List.mem_cons_of_mem _ (List.mem_cons_of_mem _ h)
def maxD : List D → Option D
  | [.int i, .int j] => some (.int (max i j))
  | [.lst ds] => (D.allInts ds).bind fun ns => (mxI ns).map .int
  | [.rls ds] => (D.allInts ds).bind fun ns => (mxI ns).map .int
  | _ => none
/-- all pairs of ints; the least -/
def D.allPairs : List D → Option (List (Int × Int))
  | [] => some []
  | .tup [.int a, .int b] :: r => (D.allPairs r).map ((a, b) :: ·)
  | _ => none
def prD (p : Int × Int) : D := .tup [.int p.1, .int p.2]
theorem D.allPairs_map : ∀ ps : List (Int × Int), D.allPairs (ps.map prD) = some ps
  | [] => rfl
  | p :: ps => by
    show (D.allPairs (ps.map prD)).map _ = _
    rw [D.allPairs_map ps]; rfl
theorem D.allPairs_eq : ∀ {ds : List D} {ps : List (Int × Int)}, D.allPairs ds = some ps → ds = ps.map prD := by
  intro ds
  induction ds using D.allPairs.induct with
  | case1 => intro ps h; cases h; rfl
  | case2 a b r ih =>
    intro ps h
    simp only [D.allPairs] at h
    cases q : D.allPairs r with
    | none => rw [q] at h; cases h
    | some qs =>
      rw [q] at h; cases h
      rw [ih q]; rfl
  | case3 t h1 h2 =>
    intro ps h
    unfold D.allPairs at h
    split at h
    · exact (h1 rfl).elim
    · exact (h2 _ _ _ rfl).elim
    · cases h
def mnP : List (Int × Int) → Option (Int × Int)
  | [] => none
  | x :: xs => some (xs.foldl (fun m y => if ltP y m then y else m) x)
theorem ltP_irr (p : Int × Int) : ltP p p = false := by simp [ltP]
theorem ltP_tr {p q r : Int × Int} (h1 : ltP p q = true) (h2 : ltP q r = true) : ltP p r = true := by
  simp only [ltP, Bool.or_eq_true, Bool.and_eq_true, decide_eq_true_eq] at *
  omega
theorem ltP_eq {p q : Int × Int} (h1 : ltP p q = false) (h2 : ltP q p = false) : p = q := by
  obtain ⟨a, b⟩ := p
  obtain ⟨c, d⟩ := q
  simp only [ltP, Bool.or_eq_false_iff, Bool.and_eq_false_iff, decide_eq_false_iff_not] at *
  have : a = c := by omega
  have : b = d := by omega
  simp [*]
theorem mnP_foldl : ∀ (xs : List (Int × Int)) (x : Int × Int), (xs.foldl (fun m y => if ltP y m then y else m) x) ∈ x :: xs ∧ ∀ q ∈ x :: xs, ltP q (xs.foldl (fun m y => if ltP y m then y else m) x) = false
  | [], x => ⟨by simp, fun q hq => by rw [List.mem_singleton] at hq; subst hq; exact ltP_irr _⟩
  | y :: ys, x => by
    have ih := mnP_foldl ys (if ltP y x then y else x)
    rw [List.foldl_cons]
    obtain ⟨h1, h2⟩ := ih
    have h3 := h2 _ List.mem_cons_self
    refine ⟨?_, fun q hq => ?_⟩
    · rcases List.mem_cons.mp h1 with e | e
      · rw [e]
        split
        · simp
        · simp
      · exact List.mem_cons_of_mem _ (List.mem_cons_of_mem _ e)
    · rcases List.mem_cons.mp hq with rfl | hq
      · by_cases c : ltP y q = true
        · rw [if_pos c] at h3 ⊢
          cases w : ltP q (ys.foldl (fun m y => if ltP y m then y else m) y) with
          | false => rfl
          | true => rw [ltP_tr c w] at h3; cases h3
        · rw [if_neg c] at h3 ⊢; exact h3
      · rcases List.mem_cons.mp hq with rfl | hq
        · by_cases c : ltP q x = true
          · rw [if_pos c] at h3 ⊢; exact h3
          · rw [if_neg c] at h3 ⊢
            cases w : ltP q (ys.foldl (fun m y => if ltP y m then y else m) x) with
            | false => rfl
            | true =>
              rw [if_neg c] at h2
              have hx := h2 x List.mem_cons_self
              rw [Bool.not_eq_true] at c
              -- neither x below it nor q below x: q is not below it
              generalize hm : ys.foldl (fun m y => if ltP y m then y else m) x = m at *
              have : ltP m x = true ∨ m = x := by
                cases z : ltP m x with
                | true => exact .inl rfl
                | false => exact .inr (ltP_eq z hx)
              rcases this with z | z
              · rw [ltP_tr w z] at c; cases c
              · rw [z, c] at w; cases w
        · exact h2 q (List.mem_cons_of_mem _ hq)
theorem mnP_some {ps : List (Int × Int)} (h : ps ≠ []) : ∃ m, mnP ps = some m ∧ m ∈ ps ∧ ∀ q ∈ ps, ltP q m = false := by
  cases ps with
  | nil => exact absurd rfl h
  | cons x xs => exact ⟨_, rfl, mnP_foldl xs x⟩
def minD : List D → Option D
  | [.int i, .int j] => some (.int (min i j))
  | [.lst ds] => match D.allInts ds with
    | some ns => (mnI ns).map .int
    | none => ((D.allPairs ds).bind mnP).map prD
  | [.rls ds] => (D.allInts ds).bind fun ns => (mnI ns).map .int
  | _ => none
def rMax2 (K : PySem.W.Frag) : List V → Hp → VK → Prop := fun xs H Q => (∃ i j, xs = [.int i, .int j] ∧ Q (.int (if j > i then j else i)) H) ∨ rMax K xs H Q
def rMinP (K : PySem.W.Frag) : List V → Hp → VK → Prop := fun xs H Q => ∃ (a : Addr) (as : List Addr) (ps : List (Int × Int)), xs = [.ref a] ∧ SqL K H a (as.map V.ref) ∧ Paired (fun a p => SqT K H a [.int p.1, .int p.2]) as ps ∧ ps ≠ [] ∧ ∀ (m : Nat) a p, as[m]? = some a → ps[m]? = some p → (∀ q ∈ ps, ltP q p = false) → Q (.ref a) H
def rMin2 (K : PySem.W.Frag) : List V → Hp → VK → Prop := fun xs H Q => ((∃ i j, xs = [.int i, .int j] ∧ Q (.int (if j < i then j else i)) H) ∨ rMin K xs H Q) ∨ rMinP K xs H Q
theorem prd_imp {α β : Type} {R S : α → β → Prop} {xs : List α} {ys : List β} (h : Paired R xs ys) (f : ∀ x y, R x y → S x y) : Paired S xs ys := by
  induction h with
  | nil => exact .nil
  | cons r t ih => exact .cons (f _ _ r) ih
theorem vals_refs : ∀ {as : List Addr} {us : List Value}, Vals (as.map V.ref) us → us = as.map Value.ref
  | [], us, h => by rw [List.map_nil] at h; cases h; rfl
  | a :: as, us, h => by
    rw [List.map_cons] at h
    cases h with
    | cons r t =>
      obtain rfl : _ = Value.ref a := r
      rw [vals_refs t]; rfl
theorem cr_minP {X : Cx} (hc : X.calm = true) (hu : X.A.units + 1 < cLine) : CallR X (.builtin "min") (rMinP X.K) := by
  intro pins s σ H vs us Q I r h
  obtain ⟨a, as, ps, rfl, hs, hp, hne, q⟩ := h
  obtain ⟨its, rv, hl, _⟩ := I.list hs
  rw [Vals.ref1 r]
  rw [vals_refs rv] at hl
  refine min_pairs (as := as) (ps := ps) (I.ok.hd hc) hu hl.isList ?_ hne fun h' tk m a p hk e1 e2 h2 => ⟨.ref a, H, I.kept hk, rfl, q m a p e1 e2 h2⟩
  refine prd_imp hp fun b p ht => ?_
  obtain ⟨its2, r2, p2, _⟩ := I.tuple ht
  obtain ⟨t, u, e⟩ := Vals.int2 r2
  rw [e] at p2
  exact ⟨t, u, p2⟩
theorem cr_max' {X : Cx} (hc : X.calm = true) : CallR X (.builtin "max") (rMax2 X.K) := CallR.or (call_max2 hc) (cr_max hc)
theorem cr_min' {X : Cx} (hc : X.calm = true) (hu : X.A.units + 1 < cLine) : CallR X (.builtin "min") (rMin2 X.K) := CallR.or (CallR.or (call_min2 hc) (cr_min hc)) (cr_minP hc hu)
theorem seqInts {v : V} {d : D} {ds : List D} {ns : List Int} (r : RepB K mg H Zp v d) (e : d = .lst ds ∨ d = .rls ds) (h : D.allInts ds = some ns) : ∃ a, v = .ref a ∧ SqL K H a (ns.map V.int) := by
  rcases e with rfl | rfl
  · obtain ⟨a, vs, rfl, ha, ra⟩ := r.lstI
    rw [D.allInts_eq h] at ra
    rw [ra.ints] at ha
    exact ⟨a, rfl, SqL.of ha⟩
  · obtain ⟨a, vs, rfl, ha, ra⟩ := r.rlsI
    rw [D.allInts_eq h] at ra
    rw [ra.ints] at ha
    exact ⟨a, rfl, ha.sqL⟩
theorem cs_max : CaS K mg (rMax2 K) maxD := by
  intro H Zp vs ds z Q zd r hg hq
  have list : ∀ (d : D) (xs : List D), (d = .lst xs ∨ d = .rls xs) → RepBs K mg H Zp vs [d] → ((D.allInts xs).bind fun ns => (mxI ns).map D.int) = some z → rMax2 K vs H Q := by
    intro d xs hd r hg
    cases q : D.allInts xs with
    | none => rw [q] at hg; cases hg
    | some ns =>
      rw [q] at hg
      cases ns with
      | nil => cases hg
      | cons n ns =>
        cases hg
        obtain ⟨v, rfl, r1⟩ := r.one
        obtain ⟨a, rfl, ha⟩ := seqInts r1 hd q
        refine .inr ⟨a, n :: ns, rfl, ha, by simp, fun m hm hle => ?_⟩
        have h1 := foldl_max_mem ns n
        have h2 := hle _ h1
        have h3 : m ≤ ns.foldl max n := by
          rcases List.mem_cons.mp hm with rfl | hm
          · exact (foldl_max_ge ns m).1
          · exact (foldl_max_ge ns n).2 m hm
        have e : m = ns.foldl max n := Int.le_antisymm h3 h2
        rw [e]
        exact hq.int
  unfold maxD at hg
  split at hg
  · cases hg
    obtain ⟨v, u, rfl, r1, r2⟩ := r.two
    rename_i i j
    refine .inl ⟨i, j, by rw [r1.int, r2.int], ?_⟩
    have e : (if j > i then j else i) = max i j := by split <;> omega
    rw [e]
    exact hq.int
  · exact list _ _ (.inl rfl) r hg
  · exact list _ _ (.inr rfl) r hg
  · cases hg
theorem reps_pairs : ∀ {vs : List V} {ps : List (Int × Int)}, Reps K mg H Zp vs (ps.map prD) → ∃ as : List Addr, vs = as.map V.ref ∧ Paired (fun a p => PlT K H a [.int p.1, .int p.2]) as ps
  | _, [], h => by cases h; exact ⟨[], rfl, .nil⟩
  | _, p :: ps, h => by
    cases h with
    | cons r t =>
      obtain ⟨as, rfl, hp⟩ := reps_pairs t
      cases r with
      | tup hpl rr =>
        rename_i a vs'
        cases rr with
        | cons r1 t1 =>
          cases t1 with
          | cons r2 t2 =>
            cases t2
            cases r1
            cases r2
            exact ⟨a :: as, rfl, .cons hpl hp⟩
theorem prd_at {α β : Type} {R : α → β → Prop} {xs : List α} {ys : List β} (h : Paired R xs ys) : ∀ {i : Nat} {x : α} {y : β}, xs[i]? = some x → ys[i]? = some y → R x y := by
  induction h with
  | nil => intro i x y e; simp at e
  | cons r t ih =>
    intro i x y e1 e2
    cases i with
    | zero => simp only [List.getElem?_cons_zero, Option.some.injEq] at e1 e2; subst e1 e2; exact r
    | succ i => exact ih (by simpa using e1) (by simpa using e2)
theorem cs_min : CaS K mg (rMin2 K) minD := by
  intro H Zp vs ds z Q zd r hg hq
  have list : ∀ (d : D) (xs : List D), (d = .lst xs ∨ d = .rls xs) → RepBs K mg H Zp vs [d] → ((D.allInts xs).bind fun ns => (mnI ns).map D.int) = some z → rMin2 K vs H Q := by
    intro d xs hd r hg
    cases q : D.allInts xs with
    | none => rw [q] at hg; cases hg
    | some ns =>
      rw [q] at hg
      cases ns with
      | nil => cases hg
      | cons n ns =>
        cases hg
        obtain ⟨v, rfl, r1⟩ := r.one
        obtain ⟨a, rfl, ha⟩ := seqInts r1 hd q
        refine .inl (.inr ⟨a, n :: ns, rfl, ha, by simp, fun m hm hle => ?_⟩)
        have h1 := foldl_min_mem ns n
        have h2 := hle _ h1
        have h3 : ns.foldl min n ≤ m := by
          rcases List.mem_cons.mp hm with rfl | hm
          · exact (foldl_min_le ns m).1
          · exact (foldl_min_le ns n).2 m hm
        have e : m = ns.foldl min n := Int.le_antisymm h2 h3
        rw [e]
        exact hq.int
  unfold minD at hg
  split at hg
  · cases hg
    obtain ⟨v, u, rfl, r1, r2⟩ := r.two
    rename_i i j
    refine .inl (.inl ⟨i, j, by rw [r1.int, r2.int], ?_⟩)
    have e : (if j < i then j else i) = min i j := by split <;> omega
    rw [e]
    exact hq.int
  · rename_i xs
    cases q : D.allInts xs with
    | some ns =>
      rw [q] at hg
      exact list _ _ (.inl rfl) r (by rw [q]; exact hg)
    | none =>
      rw [q] at hg
      cases q2 : D.allPairs xs with
      | none => rw [q2] at hg; cases hg
      | some ps =>
        rw [q2] at hg
        by_cases hne : ps = []
        · subst hne; cases hg
        obtain ⟨m, e, hm, hle⟩ := mnP_some hne
        simp only [Option.bind_some, e, Option.map_some, Option.some.injEq] at hg
        subst hg
        obtain ⟨v, rfl, r1⟩ := r.one
        obtain ⟨a, us, rfl, ha, ra⟩ := r1.lstI
        rw [D.allPairs_eq q2] at ra
        obtain ⟨as, rfl, hp⟩ := reps_pairs ra
        refine .inr ⟨a, as, ps, rfl, SqL.of ha, prd_imp hp fun b p h => h.sqT, hne, fun i b p e1 e2 h2 => ?_⟩
        obtain rfl : p = m := ltP_eq (hle p (List.mem_of_getElem? e2)) (h2 m hm)
        refine hq _ _ Ext.refl (.tup (prd_at hp e1 e2) (.cons (.int _) (.cons (.int _) .nil)))
  · exact list _ _ (.inr rfl) r hg
  · cases hg
def intD : List D → Option D
  | [.int i] => some (.int i)
  | [.bl b] => some (.int (if b then 1 else 0))
  | [.str s] => if s.length ≤ 640 then (PySem.intText? s).map .int else none
  | _ => none
def rInt3 : List V → Hp → VK → Prop := fun xs H Q => ((∃ i, xs = [.int i] ∧ Q (.int i) H) ∨ ∃ k, xs = [.bl k] ∧ Q (.int (if k then 1 else 0)) H) ∨ ∃ a n, xs = [.str a] ∧ PySem.intText? a = some n ∧ a.length ≤ 640 ∧ Q (.int n) H
theorem cr_int {X : Cx} : CallR X (.type "int") rInt3 := CallR.or call_int1 call_int_str
theorem cs_int : CaS K mg rInt3 intD := by
  intro H Zp vs ds z Q zd r hg hq
  unfold intD at hg
  split at hg
  · cases hg
    obtain ⟨v, rfl, r1⟩ := r.one
    exact .inl (.inl ⟨_, by rw [r1.int], hq.int⟩)
  · cases hg
    obtain ⟨v, rfl, r1⟩ := r.one
    exact .inl (.inr ⟨_, by rw [r1.bl], hq.int⟩)
  · split at hg
    · rename_i s hl
      cases q : PySem.intText? s with
      | none => rw [q] at hg; cases hg
      | some n =>
        rw [q] at hg; cases hg
        obtain ⟨v, rfl, r1⟩ := r.one
        exact .inr ⟨s, n, by rw [r1.str], q, hl, hq.int⟩
    · cases hg
  · cases hg
def strD : List D → Option D
  | [.int i] => if i.natAbs < 2 ^ 1900 then some (.str (toString i)) else none
  | [.str s] => some (.str s)
  | _ => none
theorem log2_1920 {i : Int} (h : i.natAbs < 2 ^ 1900) : i.natAbs.log2 < 1920 := by
  by_cases h0 : i.natAbs = 0
  · rw [h0]; decide
  · have := (Nat.log2_lt h0).mpr h
    omega
def rStr2 : List V → Hp → VK → Prop := fun xs H Q => (∃ i, xs = [.int i] ∧ i.natAbs.log2 < 1920 ∧ Q (.str (toString i)) H) ∨ ∃ a, xs = [.str a] ∧ Q (.str a) H
theorem cr_str {X : Cx} : CallR X (.type "str") rStr2 := CallR.or call_str_int SkE.call_str_str
theorem cs_str : CaS K mg rStr2 strD := by
  intro H Zp vs ds z Q zd r hg hq
  unfold strD at hg
  split at hg
  · split at hg
    · cases hg
      obtain ⟨v, rfl, r1⟩ := r.one
      exact .inl ⟨_, by rw [r1.int], log2_1920 (by assumption), hq.str⟩
    · cases hg
  · cases hg
    obtain ⟨v, rfl, r1⟩ := r.one
    exact .inr ⟨_, by rw [r1.str], hq.str⟩
  · cases hg
def sumD : List D → Option D
  | [.lst ds] => (D.allInts ds).map fun ns => .int ns.sum
  | _ => none
theorem cs_sum : CaS K mg (rSum K) sumD := by
  intro H Zp vs ds z Q zd r hg hq
  unfold sumD at hg
  split at hg
  · rename_i xs
    cases q : D.allInts xs with
    | none => rw [q] at hg; cases hg
    | some ns =>
      rw [q] at hg; cases hg
      obtain ⟨v, rfl, r1⟩ := r.one
      obtain ⟨a, rfl, ha⟩ := seqInts r1 (.inl rfl) q
      exact ⟨a, ns, rfl, ha, hq.int⟩
  · cases hg
theorem seqBls {v : V} {ds : List D} {ns : List Bool} (r : RepB K mg H Zp v (.lst ds)) (h : D.allBls ds = some ns) : ∃ a, v = .ref a ∧ SqL K H a (ns.map V.bl) := by
  obtain ⟨a, vs, rfl, ha, ra⟩ := r.lstI
  rw [D.allBls_eq h] at ra
  rw [ra.bls] at ha
  exact ⟨a, rfl, SqL.of ha⟩
def allD : List D → Option D
  | [.lst ds] => (D.allBls ds).map fun ns => .bl (ns.all id)
  | _ => none
def anyD : List D → Option D
  | [.lst ds] => (D.allBls ds).map fun ns => .bl (ns.any id)
  | _ => none
theorem cs_all : CaS K mg (rAll K) allD := by
  intro H Zp vs ds z Q zd r hg hq
  unfold allD at hg
  split at hg
  · rename_i xs
    cases q : D.allBls xs with
    | none => rw [q] at hg; cases hg
    | some ns =>
      rw [q] at hg; cases hg
      obtain ⟨v, rfl, r1⟩ := r.one
      obtain ⟨a, rfl, ha⟩ := seqBls r1 q
      exact ⟨a, ns, rfl, ha, hq.bl⟩
  · cases hg
theorem cs_any : CaS K mg (rAny K) anyD := by
  intro H Zp vs ds z Q zd r hg hq
  unfold anyD at hg
  split at hg
  · rename_i xs
    cases q : D.allBls xs with
    | none => rw [q] at hg; cases hg
    | some ns =>
      rw [q] at hg; cases hg
      obtain ⟨v, rfl, r1⟩ := r.one
      obtain ⟨a, rfl, ha⟩ := seqBls r1 q
      exact ⟨a, ns, rfl, ha, hq.bl⟩
  · cases hg
def tupleD : List D → Option D
  | [d] => d.items.map .tup
  | _ => none
theorem cs_tuple : CaS K mg (rTuple K) tupleD := by
  intro H Zp vs ds z Q zd r hg hq
  unfold tupleD at hg
  split at hg
  · rename_i d
    cases q : d.items with
    | none => rw [q] at hg; cases hg
    | some xs =>
      rw [q] at hg; cases hg
      obtain ⟨v, rfl, r1⟩ := r.one
      cases d with
      | tup ys => cases q; obtain ⟨p, vs, rfl, hp, rp⟩ := r1.tupP; exact ⟨p, vs, rfl, .inr ⟨hp.sqT, hq.same (.tup hp rp)⟩⟩
      | lst ys => cases q; obtain ⟨p, vs, rfl, hp, rp⟩ := r1.lstI; exact ⟨p, vs, rfl, .inl ⟨SqL.of hp, hq.tup rp⟩⟩
      | rls ys => cases q; obtain ⟨p, vs, rfl, hp, rp⟩ := r1.rlsI; exact ⟨p, vs, rfl, .inl ⟨hp.sqL, hq.tup rp⟩⟩
      | _ => cases q
  · cases hg
/-- list(..): a new one -/
def listF : List D → Option O
  | [d] => d.items.map .lst
  | _ => none
theorem cs_list : CaSF K mg (fun xs H Q => ∃ p ys, xs = [.ref p] ∧ (SqL K H p ys ∨ SqT K H p ys) ∧ ∀ l, H l = none → Q (.ref l) (upd H l (.lst ys))) listF := by
  intro H Zp vs ds z Q r hg hq
  unfold listF at hg
  split at hg
  · rename_i d
    cases q : d.items with
    | none => rw [q] at hg; cases hg
    | some xs =>
      rw [q] at hg; cases hg
      obtain ⟨v, rfl, r1⟩ := r.one
      obtain ⟨p, vs, rfl, hp, rp⟩ := r1.seq q
      exact ⟨p, vs, rfl, hp, hq.lst rp⟩
  · cases hg
/-- sorted of ints -/
def srt (ns : List Int) : List Int := ns.mergeSort (fun a b => decide (a ≤ b))
theorem srt_perm (ns : List Int) : (srt ns).Perm ns := List.mergeSort_perm ns _
theorem srt_sorted (ns : List Int) : (srt ns).Pairwise (· ≤ ·) := by
  have h := List.pairwise_mergeSort (le := fun (a b : Int) => decide (a ≤ b)) (fun a b c h1 h2 => by simp only [decide_eq_true_eq] at *; omega) (fun a b => by simp only [Bool.or_eq_true, decide_eq_true_eq]; omega) ns
  exact h.imp fun h => of_decide_eq_true h
theorem perm_sorted_eq : ∀ {xs ys : List Int}, xs.Perm ys → xs.Pairwise (· ≤ ·) → ys.Pairwise (· ≤ ·) → xs = ys := fun {xs ys} p h1 h2 =>
  List.Perm.eq_of_pairwise (fun a b _ _ => Int.le_antisymm) h1 h2 p
def sortedF : List D → Option O
  | [.lst ds] => (D.allInts ds).map fun ns => .lst ((srt ns).map .int)
  | [.tup ds] => (D.allInts ds).map fun ns => .lst ((srt ns).map .int)
  | _ => none
theorem Reps.ofInts (ns : List Int) : Reps K mg H Zp (ns.map V.int) (ns.map D.int) := by
  induction ns with
  | nil => exact .nil
  | cons n ns ih => exact .cons (.int n) ih
theorem cs_sorted : CaSF K mg (rSortedIT K) sortedF := by
  intro H Zp vs ds z Q r hg hq
  unfold sortedF at hg
  split at hg
  · rename_i xs
    cases q : D.allInts xs with
    | none => rw [q] at hg; cases hg
    | some ns =>
      rw [q] at hg; cases hg
      obtain ⟨v, rfl, r1⟩ := r.one
      obtain ⟨a, rfl, ha⟩ := seqInts r1 (.inl rfl) q
      refine ⟨a, ns, rfl, .inl ha, fun ns' p hp hs hn => ?_⟩
      have e : ns' = srt ns := perm_sorted_eq (hp.trans (srt_perm ns).symm) hs (srt_sorted ns)
      rw [e]
      exact hq.lst (Reps.ofInts _) p hn
  · rename_i xs
    cases q : D.allInts xs with
    | none => rw [q] at hg; cases hg
    | some ns =>
      rw [q] at hg; cases hg
      obtain ⟨v, rfl, r1⟩ := r.one
      obtain ⟨a, us, rfl, ha, ra⟩ := r1.tupI
      rw [D.allInts_eq q] at ra
      rw [ra.ints] at ha
      refine ⟨a, ns, rfl, .inr ha, fun ns' p hp hs hn => ?_⟩
      have e : ns' = srt ns := perm_sorted_eq (hp.trans (srt_perm ns).symm) hs (srt_sorted ns)
      rw [e]
      exact hq.lst (Reps.ofInts _) p hn
  · cases hg
theorem cs_dict : CaSF K mg (rDictP K) dictF := by
  intro H Zp vs ds z Q r hg hq
  unfold dictF at hg
  split at hg
  · rename_i d
    cases q : d.items with
    | none => rw [q] at hg; cases hg
    | some xs =>
      rw [q] at hg
      cases hp : pairsD xs with
      | none => simp only [Option.bind_some, hp] at hg; cases hg
      | some ps =>
        simp only [Option.bind_some, hp, Option.map_some, Option.some.injEq] at hg
        subst hg
        obtain ⟨v, rfl, r1⟩ := r.one
        have fin : ∀ {a : Addr} {us : List V}, v = .ref a → (SqL K H a us ∨ PlT K H a us) → Reps K mg H Zp us xs → rDictP K [v] H Q := fun {a us} e hs rp => by
          obtain ⟨as, kvs, e1, h1, h2, h3⟩ := pairsD_rep rp hp
          subst e
          refine ⟨a, us, as, kvs, rfl, hs, e1, h1, fun p n => hq p _ n ⟨mergeK [] kvs, rfl, ?_⟩⟩
          exact mergeD_rep h2 h3 rfl .nil
        cases d with
        | tup ys => cases q; obtain ⟨a, us, e, h, rp⟩ := r1.tupP; exact fin e (.inr h) rp
        | lst ys => cases q; obtain ⟨a, us, e, h, rp⟩ := r1.lstI; exact fin e (.inl (SqL.of h)) rp
        | rls ys => cases q; obtain ⟨a, us, e, h, rp⟩ := r1.rlsI; exact fin e (.inl h.sqL) rp
        | _ => cases q
  · cases hg

/-! ### repr of data -/
def showOk (p : PyData) : Bool := p.showable && !p.hasDict && decide (p.depth ≤ 60) && decide (p.shown.length ≤ sizeLine)
def reprD : List D → Option D
  | [.int i] => if i.natAbs < 2 ^ 1900 then some (.str (toString i)) else none
  | [.bl b] => some (.str (if b then "True" else "False"))
  | [.non] => some (.str "None")
  | [d] => d.py.bind fun p => if showOk p then some (.str p.shown) else none
  | _ => none
def rRepr (K : PySem.W.Frag) : List V → Hp → VK → Prop := fun xs H Q => ((∃ i, xs = [.int i] ∧ i.natAbs.log2 < 1920 ∧ Q (.str (toString i)) H) ∨ (∃ b : Bool, xs = [.bl b] ∧ Q (.str (if b then "True" else "False")) H) ∨ (xs = [.non] ∧ Q (.str "None") H)) ∨ ∃ v p, xs = [v] ∧ Dp K H v p ∧ showOk p = true ∧ Q (.str p.shown) H
theorem cr_repr {X : Cx} (gd : X.A.guards = some []) (hu : X.A.units + 64 < cLine) : CallR X (.builtin "repr") (rRepr X.K) := by
  intro pins s σ H xs us Q I r h
  rcases h with (⟨i, rfl, h1, q⟩ | ⟨b, rfl, q⟩ | ⟨rfl, q⟩) | h
  · obtain ⟨u, rfl, ru⟩ := vals1 r
    obtain ⟨t, rfl⟩ := ru
    exact P.repr_of_int h1 ⟨.str _, H, I.tok _, ⟨_, rfl⟩, q⟩
  · obtain ⟨u, rfl, ru⟩ := vals1 r
    cases ru
    exact P.repr_of_bool ⟨.str _, H, I.tok _, ⟨_, rfl⟩, q⟩
  · obtain ⟨u, rfl, ru⟩ := vals1 r
    cases ru
    exact P.repr_of_none ⟨.str _, H, I.tok _, ⟨_, rfl⟩, q⟩
  obtain ⟨v, p, rfl, dp, so, q⟩ := h
  obtain ⟨u, rfl, ru⟩ := vals1 r
  unfold showOk at so
  simp only [Bool.and_eq_true, decide_eq_true_eq, Bool.not_eq_true'] at so
  obtain ⟨⟨⟨h1, h2⟩, h3⟩, h4⟩ := so
  have fin : ∀ h' u' tk, (∀ b o, s.heap.get? b = some o → h'.get? b = some o) → EP X pins σ Q (.str p.shown u') { s with heap := h', toks := tk } := fun h' u' tk hk => ⟨.str p.shown, H, I.kept hk, ⟨_, rfl⟩, q⟩
  have big : ∀ a, u = .ref a → wpAny (model X.prog X.w) X.A (call (.builtin "repr") [u]) (EP X pins σ Q) X.xe s := fun a e => by
    subst e
    obtain ⟨as, rd⟩ := Dp.reads I p v _ dp ru
    exact repr_of_reads' rd h1 (PyData.noDict_hsm h2) gd (by omega) (fun _ _ e => e) (fun h' u' tk hk => fin h' u' tk hk) h4
  cases dp with
  | non => cases ru; exact P.repr_of_none ⟨.str _, H, I.tok _, ⟨_, rfl⟩, q⟩
  | bl b => cases ru; exact P.repr_of_bool ⟨.str _, H, I.tok _, ⟨_, rfl⟩, q⟩
  | int i =>
    obtain ⟨t, rfl⟩ := ru
    have h1' : i.natAbs.log2 < 1920 := by simpa [PyData.showable] using h1
    exact P.repr_of_int h1' ⟨.str _, H, I.tok _, ⟨_, rfl⟩, q⟩
  | str x => obtain ⟨t, rfl⟩ := ru; exact P.repr_of_str ⟨.str _, H, I.tok _, ⟨_, rfl⟩, q⟩ h4
  | lst _ _ => exact big _ ru
  | tup _ _ => exact big _ ru
theorem cs_repr : CaS K mg (rRepr K) reprD := by
  intro H Zp vs ds z Q zd r hg hq
  unfold reprD at hg
  split at hg
  · split at hg
    · rename_i i hi
      cases hg
      obtain ⟨v, rfl, r1⟩ := r.one
      exact .inl (.inl ⟨_, by rw [r1.int], log2_1920 hi, hq.str⟩)
    · cases hg
  · cases hg
    obtain ⟨v, rfl, r1⟩ := r.one
    exact .inl (.inr (.inl ⟨_, by rw [r1.bl], hq.str⟩))
  · cases hg
    obtain ⟨v, rfl, r1⟩ := r.one
    exact .inl (.inr (.inr ⟨by rw [r1.non], hq.str⟩))
  · rename_i d _ _ _
    cases e : d.py with
    | none => rw [e] at hg; cases hg
    | some p =>
      rw [e] at hg
      simp only [Option.bind_some] at hg
      split at hg
      · rename_i hs
        cases hg
        obtain ⟨v, rfl, r1⟩ := r.one
        exact .inr ⟨v, p, rfl, r1.dp e, hs, hq.str⟩
      · cases hg
  · cases hg
end
end Ev
/-! Part E: the inner language and its evaluator. -/
namespace Ev
open PySem PySem.Spec PyProof.Rows L2

/-- a target: a name's slot, several -/
inductive Tg where
  | nm (i : Nat) | tp (ts : List Tg)
/-- built-ins that give a value; that make a new object -/
inductive Bi where
  | len | abs | max | min | int | str | sum | all | any | tuple | isi | repr
inductive BiF where
  | list | sorted | dict
mutual
inductive IE where
  | slot (i : Nat)
  | con (d : D)
  | glo (x : Str) (d : D)
  | bin (op : Operator) (a b : IE)
  | neg (a : IE)
  | not (a : IE)
  | and (a b : IE) | or (a b : IE)
  | ifx (c a b : IE)
  | cmp (op : CmpOp) (a b : IE)
  | chn (op op' : CmpOp) (a b c : IE)
  | tup (es : List IE)
  | ix (a i : IE)
  | sl (a : IE) (lo hi : Option IE)
  | rev (a : IE)
  | dg2 (a i x : IE)
  | call (k : Nat) (es : List IE)
  /-- a local name that holds one of the defs ks -/
  | cloc (i : Nat) (ks : List (Str × Nat)) (es : List IE)
  /-- a tuple with stars (where bs says true) -/
  | tpz (bs : List Bool) (es : List IE)
  | bi (b : Bi) (es : List IE)
  | frz (f : IF)
  | new (f : IF)
  | pop (i : Nat) (e : IE)
inductive IF where
  | lst (es : List IE)
  | cat (a b : IE) | rep (a b : IE)
  | sl (a : IE) (lo hi : Option IE)
  | bi (b : BiF) (e : IE)
  | rng (a b : IE)
  | comp (own : List Nat) (tg : Tg) (it : II) (c : Option IE) (elt : IE)
  | dnew
  | ssi (e : IE)
  | lsz (bs : List Bool) (es : List IE)
inductive II where
  | seq (e : IE)
  | rng1 (a : IE) | rng2 (a b : IE)
  | enum (e : IE) | zip (a b : IE)
end
inductive IS where
  | ex (e : IE)
  | asg (tg : Tg) (e : IE)
  | par (is : List Nat) (es : List IE)
  | app (i : Nat) (e : IE)
  | ext (i : Nat) (e : IE)
  | sti (i : Nat) (ix e : IE)
  | ret (e : IE)
  | ret0
  | ite (c : IE) (a b : List IS)
  | for (tg : Tg) (it : II) (body : List IS)
  | whl (n : Nat) (c : IE) (body : List IS)
  | rai (c : Str) (e : IE)
  | never

/-! ### helpers -/
def binD : Operator → D → D → Option D
  | .Add => addD | .Sub => subD | .Mult => mulD | .FloorDiv => fdivD | .Mod => modD | .Pow => powD
  | _ => fun _ _ => none
def cmpD : CmpOp → D → D → Option D
  | .Eq => eqD | .NotEq => neD | .Lt => ltD | .LtE => leD | .Gt => gtD | .GtE => geD | .Is => isD | .IsNot => isnD | .In => inDE | .NotIn => ninDE
def biD : Bi → List D → Option D
  | .len => lenD | .abs => absD | .max => maxD | .min => minD | .int => intD | .str => strD | .sum => sumD | .all => allD | .any => anyD | .tuple => tupleD | .isi => isiD | .repr => reprD
def peeks (φ : List O) : List X1 → Option (List D)
  | [] => some []
  | x :: xs => match peek φ x, peeks φ xs with
    | some d, some ds => some (d :: ds)
    | _, _ => none
def op1 (g : D → Option D) (x : X1) (φ : List O) : R X1 := R.ofOpt φ (((peek φ x).bind g).map .v)
def op2 (g : D → D → Option D) (x y : X1) (φ : List O) : R X1 := R.ofOpt φ (((peek φ x).bind fun d => (peek φ y).bind fun e => g d e).map .v)
def opn (g : List D → Option D) (xs : List X1) (φ : List O) : R X1 := R.ofOpt φ (((peeks φ xs).bind g).map .v)
def truth : D → Option Bool
  | .non => some false
  | .bl b => some b
  | .int i => some (i != 0)
  | .str s => if s.length ≤ sizeLine then some ((s.length : Int) != 0) else none
  | .tup xs => some (!xs.isEmpty)
  | .lst xs => some (!xs.isEmpty)
  | .rls xs => some (!xs.isEmpty)
  | .dct ks _ => some (!ks.isEmpty)
  | _ => none
def truX (x : X1) (φ : List O) : R Bool := R.ofOpt φ ((peek φ x).bind truth)
/-- a handle becomes a tree: from then on it doesn't change -/
def frzX : X1 → List O → R D
  | .v d, φ => .ok d φ
  | .h j, φ => match φ[j]? with
    | some (.lst ds) => .ok (.lst ds) (φ.set j (.frz (.lst ds)))
    | some (.dct ks ds) => .ok (.dct ks ds) (φ.set j (.frz (.dct ks ds)))
    | some (.ins c ns ds) => .ok (.ins c ns ds) (φ.set j (.frz (.ins c ns ds)))
    | some (.frz d) => .ok d φ
    | _ => .bad
def frzXs : List X1 → List O → R (List D)
  | [], φ => .ok [] φ
  | x :: xs, φ => (frzX x φ).bind fun d φ1 => (frzXs xs φ1).bind fun ds φ2 => .ok (d :: ds) φ2
/-- a new object's content as a tree -/
def O.toD : O → Option D
  | .lst ds => some (.lst ds)
  | .dct ks ds => some (.dct ks ds)
  | .ins c ns ds => some (.ins c ns ds)
  | _ => none
mutual
def bindT : Tg → D → List Sl → Option (List Sl)
  | .nm i, d, ρ => if i < ρ.length then some (ρ.set i (.v d)) else none
  | .tp ts, .tup ds, ρ => if ts.length = ds.length then bindTs ts ds ρ else none
  | .tp ts, .wtp ds, ρ => if ts.length = ds.length then bindTs ts ds ρ else none
  | _, _, _ => none
def bindTs : List Tg → List D → List Sl → Option (List Sl)
  | t :: ts, d :: ds, ρ => (bindT t d ρ).bind fun ρ' => bindTs ts ds ρ'
  | [], [], ρ => some ρ
  | _, _, _ => none
end
def wipeR (ρ : List Sl) : List Nat → List Sl
  | [] => ρ
  | i :: is => (wipeR ρ is).set i .u
/-! ### calls: the handles that are handed on are numbered anew -/
abbrev FSem := List X1 → List O → R X1
/-- a handle that is no more is a tree -/
def resX (φ : List O) : X1 → X1
  | .v d => .v d
  | .h j => match φ[j]? with
    | some (.frz d) => .v d
    | _ => .h j
def hsOf : List X1 → List Nat
  | [] => []
  | .v _ :: r => hsOf r
  | .h j :: r => j :: hsOf r
def renum : List X1 → Nat → List X1
  | [], _ => []
  | .v d :: r, n => .v d :: renum r n
  | .h _ :: r, n => .h n :: renum r (n + 1)
def pick (φ : List O) : List Nat → Option (List O)
  | [] => some []
  | j :: js => match φ[j]?, pick φ js with
    | some o, some os => some (o :: os)
    | _, _ => none
def puts (φ : List O) : List Nat → List O → List O
  | j :: js, o :: os => puts (φ.set j o) js os
  | _, _ => φ
def callX (F : FSem) (xs : List X1) (φ : List O) : R X1 :=
  let ys := xs.map (resX φ)
  let js := hsOf ys
  if js.Nodup then
    match pick φ js with
    | none => .bad
    | some φc => match F (renum ys 0) φc with
      | .bad => .bad
      | .exc c d φ' => .exc c d (puts φ js φ')
      | .ok (.v d) φ' => .ok (.v d) (puts φ js φ')
      | .ok (.h k) φ' =>
        if k < js.length then (match js[k]? with | some j => .ok (.h j) (puts φ js φ') | none => .bad)
        else if k = js.length then (match φ'[k]? with | some o => .ok (.h φ.length) (puts φ js φ' ++ [o]) | none => .bad)
        else .bad
  else .bad
/-! ### loops -/
inductive Out where
  | nx (ρ : List Sl) | rt (x : X1)
def forL (step : D → List Sl → List O → R Out) : List D → List Sl → List O → R Out
  | [], ρ, φ => .ok (.nx ρ) φ
  | d :: ds, ρ, φ => (step d ρ φ).bind fun o φ1 => match o with
    | .nx ρ1 => forL step ds ρ1 φ1
    | .rt x => .ok (.rt x) φ1
def whlL (test : List Sl → List O → R Bool) (step : List Sl → List O → R Out) : Nat → List Sl → List O → R Out
  | 0, _, _ => .bad
  | n + 1, ρ, φ => (test ρ φ).bind fun b φ1 => if b then (step ρ φ1).bind fun o φ2 => match o with
      | .nx ρ1 => whlL test step n ρ1 φ2
      | .rt x => .ok (.rt x) φ2
    else .ok (.nx ρ) φ1
def compL (one : D → List O → R (Option D)) : List D → List O → R (List D)
  | [], φ => .ok [] φ
  | d :: ds, φ => (one d φ).bind fun o φ1 => (compL one ds φ1).bind fun r φ2 => .ok (match o with | some x => x :: r | none => r) φ2
/-- nothing is raised in a comprehension -/
def R.nox {β : Type} : R β → R β
  | .exc _ _ _ => .bad
  | r => r
@[simp] theorem R.nox_ok {β : Type} (b : β) (φ : List O) : R.nox (.ok b φ) = .ok b φ := rfl
/-- what a loop goes through; a list or a tuple?; the handles that are locked meanwhile -/
structure Wk where
  ds : List D
  isL : Bool
  lk : List (Nat × List D)
def D.seqs : D → Option (List D × Bool)
  | .tup xs => some (xs, false)
  | .lst xs => some (xs, true)
  | .rls xs => some (xs, true)
  | _ => none
/-- a thing that is walked -/
def walkX (x : X1) (φ : List O) : R Wk := match x with
  | .v d => R.ofOpt φ (d.seqs.map fun p => ⟨p.1, p.2, []⟩)
  | .h j => match φ[j]? with
    | some (.lst ds) => .ok ⟨ds, true, [(j, ds)]⟩ (φ.set j (.lck ds))
    | some (.lck ds) => .ok ⟨ds, true, []⟩ φ
    | some (.frz d) => R.ofOpt φ (d.seqs.map fun p => ⟨p.1, p.2, []⟩)
    | _ => .bad
def unlockL : List (Nat × List D) → List O → List O
  | [], φ => φ
  | (j, ds) :: r, φ => unlockL r (φ.set j (.lst ds))
def unlock (w : Wk) (φ : List O) : List O := unlockL w.lk φ
def rngL (lo hi : Int) : List D := (List.range (hi - lo).toNat).map fun (i : Nat) => .int (lo + i)
def enumL (ds : List D) (k : Nat := 0) : List D := match ds with
  | [] => []
  | d :: r => .wtp [.int k, d] :: enumL r (k + 1)
def zipL : List D → List D → List D
  | d :: r, e :: q => .wtp [d, e] :: zipL r q
  | _, _ => []
def inRng (i : Int) : Bool := decide (-(2 ^ 62) ≤ i) && decide (i < 2 ^ 62)

/-- the distinct ones, in order -/
def nub : List Int → List Int
  | [] => []
  | x :: xs => if x ∈ xs then nub xs else x :: nub xs
def ssiF (d : D) : Option O := match d with
  | .lst ds => (D.allInts ds).bind fun ns => if (nub ns).length < 64 ∧ ns.length < 1000 then some (.lst ((srt (nub ns)).map .int)) else none
  | _ => none
/-- one turn of a comprehension; all of them -/
def one1 (own : List Nat) (t : Tg) (fc : List Sl → List O → R Bool) (fe : Ev0) (ρ : List Sl) (d : D) (φ2 : List O) : R (Option D) := match bindT t d (wipeR ρ own) with
  | none => .bad
  | some ρ1 => (fc ρ1 φ2).bind fun b φ3 => if b then (fe ρ1 φ3).bind fun x φ4 => (frzX x φ4).bind fun d φ5 => .ok (some d) φ5 else .ok none φ3
def compX (own : List Nat) (t : Tg) (fc : List Sl → List O → R Bool) (fe : Ev0) (ρ : List Sl) (wk : Wk) (φ1 : List O) : R (List D) :=
  if wk.ds.length ≤ sizeLine then R.nox (compL (one1 own t fc fe ρ) wk.ds φ1) else .bad
/-! ### the evaluator -/
mutual
def ev (G : List FSem) : IE → List Sl → List O → R X1
  | .slot i, ρ, φ => match ρ[i]? with
    | some (.v d) => .ok (.v d) φ
    | some (.h j) => .ok (.h j) φ
    | _ => .bad
  | .con d, _, φ => .ok (.v d) φ
  | .glo _ d, _, φ => .ok (.v d) φ
  | .bin op a b, ρ, φ => (ev G a ρ φ).bind fun x φ1 => (ev G b ρ φ1).bind fun y φ2 => op2 (binD op) x y φ2
  | .neg a, ρ, φ => (ev G a ρ φ).bind fun x φ1 => op1 negD x φ1
  | .not a, ρ, φ => (ev G a ρ φ).bind fun x φ1 => (truX x φ1).bind fun b φ2 => .ok (.v (.bl (!b))) φ2
  | .and a b, ρ, φ => (ev G a ρ φ).bind fun x φ1 => (truX x φ1).bind fun t φ2 => if t then ev G b ρ φ2 else .ok x φ2
  | .or a b, ρ, φ => (ev G a ρ φ).bind fun x φ1 => (truX x φ1).bind fun t φ2 => if t then .ok x φ2 else ev G b ρ φ2
  | .ifx c a b, ρ, φ => (ev G c ρ φ).bind fun z φ0 => (truX z φ0).bind fun t φ1 => if t then ev G a ρ φ1 else ev G b ρ φ1
  | .cmp op a b, ρ, φ => (ev G a ρ φ).bind fun x φ1 => (ev G b ρ φ1).bind fun y φ2 => op2 (cmpD op) x y φ2
  | .chn op op' a b c, ρ, φ => (ev G a ρ φ).bind fun x φ1 => (ev G b ρ φ1).bind fun y φ2 => (op2 (cmpD op) x y φ2).bind fun z φ3 => match z with
    | .v (.bl true) => (ev G c ρ φ3).bind fun u φ4 => op2 (cmpD op') y u φ4
    | .v (.bl false) => .ok (.v (.bl false)) φ3
    | _ => .bad
  | .tup es, ρ, φ => (evs G es ρ φ).bind fun xs φ1 => (frzXs xs φ1).bind fun ds φ2 => if ds.length ≤ sizeLine then .ok (.v (.tup ds)) φ2 else .bad
  | .ix a i, ρ, φ => (ev G a ρ φ).bind fun x φ1 => (ev G i ρ φ1).bind fun y φ2 => op2 ixE x y φ2
  | .sl a lo hi, ρ, φ => (ev G a ρ φ).bind fun x φ1 => (evP G lo ρ φ1).bind fun l φ2 => (evP G hi ρ φ2).bind fun h φ3 => op1 (fun d => slD d l h) x φ3
  | .rev a, ρ, φ => (ev G a ρ φ).bind fun x φ1 => op1 rvD x φ1
  | .dg2 a i z, ρ, φ => (ev G a ρ φ).bind fun x φ1 => match peek φ1 x with
    | some (.dct _ _) => (ev G i ρ φ1).bind fun y φ2 => (ev G z ρ φ2).bind fun u φ3 => (frzX u φ3).bind fun e φ4 => op2 (fun d k => dget2D d k e) x y φ4
    | _ => .bad
  | .call k es, ρ, φ => (evs G es ρ φ).bind fun xs φ1 => match G[k]? with
    | some F => callX F xs φ1
    | none => .bad
  | .cloc i ks es, ρ, φ => match ρ[i]? with
    | some (.v (.glo x)) => (match ks.lookup x with
      | some k => (evs G es ρ φ).bind fun xs φ1 => (match G[k]? with
        | some F => callX F xs φ1
        | none => .bad)
      | none => .bad)
    | _ => .bad
  | .tpz bs es, ρ, φ => (evz G bs es ρ φ).bind fun xs φ1 => (frzXs xs φ1).bind fun ds φ2 => if ds.length ≤ sizeLine then .ok (.v (.tup ds)) φ2 else .bad
  | .bi b es, ρ, φ => (evs G es ρ φ).bind fun xs φ1 => opn (biD b) xs φ1
  | .frz f, ρ, φ => (evF G f ρ φ).bind fun o φ1 => R.ofOpt φ1 (o.toD.map .v)
  | .new f, ρ, φ => (evF G f ρ φ).bind fun o φ1 => .ok (.h φ1.length) (φ1 ++ [o])
  | .pop _ _, _, _ => .bad
def evs (G : List FSem) : List IE → List Sl → List O → R (List X1)
  | [], _, φ => .ok [] φ
  | e :: es, ρ, φ => (ev G e ρ φ).bind fun x φ1 => (evs G es ρ φ1).bind fun xs φ2 => .ok (x :: xs) φ2
def evz (G : List FSem) : List Bool → List IE → List Sl → List O → R (List X1)
  | _, [], _, φ => .ok [] φ
  | [], _ :: _, _, _ => .bad
  | true :: bs, e :: es, ρ, φ => (ev G e ρ φ).bind fun x φ1 => match (peek φ1 x).bind D.items with
    | some ys => (evz G bs es ρ φ1).bind fun xs φ2 => .ok (ys.map .v ++ xs) φ2
    | none => .bad
  | false :: bs, e :: es, ρ, φ => (ev G e ρ φ).bind fun x φ1 => (evz G bs es ρ φ1).bind fun xs φ2 => .ok (x :: xs) φ2
def evP (G : List FSem) : Option IE → List Sl → List O → R (Option Int)
  | none, _, φ => .ok none φ
  | some e, ρ, φ => (ev G e ρ φ).bind fun x φ1 => match peek φ1 x with
    | some (.int i) => .ok (some i) φ1
    | _ => .bad
def evC (G : List FSem) : Option IE → List Sl → List O → R Bool
  | none, _, φ => .ok true φ
  | some e, ρ, φ => (ev G e ρ φ).bind fun x φ1 => truX x φ1
def evF (G : List FSem) : IF → List Sl → List O → R O
  | .lst es, ρ, φ => (evs G es ρ φ).bind fun xs φ1 => (frzXs xs φ1).bind fun ds φ2 => if ds.length ≤ sizeLine then .ok (.lst ds) φ2 else .bad
  | .cat a b, ρ, φ => (ev G a ρ φ).bind fun x φ1 => (ev G b ρ φ1).bind fun y φ2 => R.ofOpt φ2 ((peek φ2 x).bind fun d => (peek φ2 y).bind fun e => catF d e)
  | .rep a b, ρ, φ => (ev G a ρ φ).bind fun x φ1 => (ev G b ρ φ1).bind fun y φ2 => R.ofOpt φ2 ((peek φ2 x).bind fun d => (peek φ2 y).bind fun e => repF d e)
  | .sl a lo hi, ρ, φ => (ev G a ρ φ).bind fun x φ1 => (evP G lo ρ φ1).bind fun l φ2 => (evP G hi ρ φ2).bind fun h φ3 => R.ofOpt φ3 ((peek φ3 x).bind fun d => slF d l h)
  | .bi b e, ρ, φ => (ev G e ρ φ).bind fun x φ1 => R.ofOpt φ1 ((peek φ1 x).bind fun d => match b with
    | .list => listF [d]
    | .sorted => sortedF [d]
    | .dict => dictF [d])
  | .rng a b, ρ, φ => (ev G a ρ φ).bind fun x φ1 => (ev G b ρ φ1).bind fun y φ2 => match x, y with
    | .v (.int i), .v (.int j) => if inRng i && inRng j && decide ((j - i).toNat ≤ 2 ^ 24) then .ok (.lst (rngL i j)) φ2 else .bad
    | _, _ => .bad
  | .comp own tg it c elt, ρ, φ => (evI G it ρ φ).bind fun wk φ1 => (compX own tg (fun ρ1 φ2 => evC G c ρ1 φ2) (fun ρ1 φ2 => ev G elt ρ1 φ2) ρ wk φ1).bind fun r φ2 => .ok (.lst r) (unlock wk φ2)
  | .dnew, _, φ => .ok (.dct [] []) φ
  | .ssi e, ρ, φ => (ev G e ρ φ).bind fun x φ1 => R.ofOpt φ1 ((peek φ1 x).bind fun d => ssiF d)
  | .lsz bs es, ρ, φ => (evz G bs es ρ φ).bind fun xs φ1 => (frzXs xs φ1).bind fun ds φ2 => if ds.length ≤ sizeLine then .ok (.lst ds) φ2 else .bad
def evI (G : List FSem) : II → List Sl → List O → R Wk
  | .seq e, ρ, φ => (ev G e ρ φ).bind fun x φ1 => walkX x φ1
  | .rng1 a, ρ, φ => (ev G a ρ φ).bind fun x φ1 => match x with
    | .v (.int i) => if inRng i then .ok ⟨rngL 0 i, true, []⟩ φ1 else .bad
    | _ => .bad
  | .rng2 a b, ρ, φ => (ev G a ρ φ).bind fun x φ1 => (ev G b ρ φ1).bind fun y φ2 => match x, y with
    | .v (.int i), .v (.int j) => if inRng i && inRng j then .ok ⟨rngL i j, true, []⟩ φ2 else .bad
    | _, _ => .bad
  | .enum e, ρ, φ => (ev G e ρ φ).bind fun x φ1 => (walkX x φ1).bind fun wk φ2 => .ok ⟨enumL wk.ds, true, wk.lk⟩ φ2
  | .zip a b, ρ, φ => (ev G a ρ φ).bind fun x φ1 => (ev G b ρ φ1).bind fun y φ2 => (walkX x φ2).bind fun wk φ3 => (walkX y φ3).bind fun wl φ4 => if wk.isL = wl.isL then .ok ⟨zipL wk.ds wl.ds, true, wk.lk ++ wl.lk⟩ φ4 else .bad
end
/-- as a test -/
def evT (G : List FSem) (e : IE) (ρ : List Sl) (φ : List O) : R Bool := (ev G e ρ φ).bind fun x φ1 => truX x φ1
mutual
def ex1 (G : List FSem) : IS → List Sl → List O → R Out
  | .ex e, ρ, φ => (ev G e ρ φ).bind fun _ φ1 => .ok (.nx ρ) φ1
  | .asg (.nm i) e, ρ, φ => (ev G e ρ φ).bind fun x φ1 => if i < ρ.length then .ok (.nx (ρ.set i x.sl)) φ1 else .bad
  | .asg tg e, ρ, φ => (ev G e ρ φ).bind fun x φ1 => (frzX x φ1).bind fun d φ2 => R.ofOpt φ2 ((bindT tg d ρ).map .nx)
  | .par is es, ρ, φ => (evs G es ρ φ).bind fun xs φ1 => if is.length = xs.length ∧ ∀ i ∈ is, i < ρ.length then .ok (.nx ((is.zip xs).foldl (fun ρ p => ρ.set p.1 p.2.sl) ρ)) φ1 else .bad
  | .app i e, ρ, φ => match ρ[i]? with
    | some (.h j) => match φ[j]? with
      | some (.lst _) => (ev G e ρ φ).bind fun x φ1 => (frzX x φ1).bind fun d φ2 => match φ2[j]? with
        | some (.lst ds) => if ds.length < sizeLine then .ok (.nx ρ) (φ2.set j (.lst (ds ++ [d]))) else .bad
        | _ => .bad
      | _ => .bad
    | _ => .bad
  | .ext i e, ρ, φ => match ρ[i]? with
    | some (.h j) => match φ[j]? with
      | some (.lst _) => (ev G e ρ φ).bind fun x φ1 => match φ1[j]?, peek φ1 x with
        | some (.lst ds), some (.lst es) => if ds.length + es.length ≤ sizeLine then .ok (.nx ρ) (φ1.set j (.lst (ds ++ es))) else .bad
        | _, _ => .bad
      | _ => .bad
    | _ => .bad
  | .sti i ie e, ρ, φ => (ev G e ρ φ).bind fun x φ1 => (frzX x φ1).bind fun d φ2 => match ρ[i]? with
    | some (.h j) => (ev G ie ρ φ2).bind fun y φ3 => match φ3[j]?, y with
      | some (.lst ds), .v (.int k) => match L2.ixN ds.length k with
        | some m => .ok (.nx ρ) (φ3.set j (.lst (ds.set m d)))
        | none => .bad
      | _, _ => .bad
    | _ => .bad
  | .ret e, ρ, φ => (ev G e ρ φ).bind fun x φ1 => .ok (.rt x) φ1
  | .ret0, _, φ => .ok (.rt (.v .non)) φ
  | .ite c a b, ρ, φ => (evT G c ρ φ).bind fun t φ1 => if t then exs G a ρ φ1 else exs G b ρ φ1
  | .for tg it body, ρ, φ => (evI G it ρ φ).bind fun wk φ1 => (forL (fun d ρ1 φ2 => match bindT tg d ρ1 with
      | none => .bad
      | some ρ2 => exs G body ρ2 φ2) wk.ds ρ φ1).bind fun o φ2 => .ok o (unlock wk φ2)
  | .whl n c body, ρ, φ => whlL (fun ρ1 φ1 => evT G c ρ1 φ1) (fun ρ1 φ1 => exs G body ρ1 φ1) n ρ φ
  | .rai _ _, _, _ => .bad
  | .never, _, _ => .bad
def exs (G : List FSem) : List IS → List Sl → List O → R Out
  | [], ρ, φ => .ok (.nx ρ) φ
  | s :: r, ρ, φ => (ex1 G s ρ φ).bind fun o φ1 => match o with
    | .nx ρ1 => exs G r ρ1 φ1
    | .rt x => .ok (.rt x) φ1
end
/-- a def: its arguments first in the slots; behind it its own handles are gone -/
def finish (m : Nat) (x : X1) (φ : List O) : R X1 := match x with
  | .v d => .ok (.v d) (φ.take m)
  | .h j => if j < m then .ok (.h j) (φ.take m) else match φ[j]? with
    | some (.frz d) => .ok (.v d) (φ.take m)
    | some (.lck _) => .bad
    | some o => .ok (.h m) (φ.take m ++ [o])
    | none => .bad
def evFn (G : List FSem) (np n : Nat) (body : List IS) : FSem := fun xs φ =>
  if xs.length = np ∧ np ≤ n then (exs G body (xs.map X1.sl ++ List.replicate (n - np) .u) φ).bind fun o φ1 => match o with
    | .nx _ => finish φ.length (.v .non) φ1
    | .rt x => finish φ.length x φ1
  else .bad
end Ev
/-! Part F: contexts; what an expression's reading owes; the first rules. -/
namespace Ev
open PySem PySem.Spec PyProof.Rows L2

/-- what stays the same through a law's run -/
structure Lw where
  P : Program
  w : World
  K : PySem.W.Frag
  mg : Str → Option Value
  base : Heap
  k : Nat

/-- the contexts in which a def's code stands: its names N, the scope, the names whose cells are its own, the wish about exceptions -/
structure Ctx (L : Lw) (N : List Str) (sc : Scope) (ca : Str → Bool) (W : XK) (X : Cx) : Prop where
  eP : X.prog = L.P
  ew : X.w = L.w
  eK : X.K = L.K
  em : X.mg = L.mg
  eb : X.base = L.base
  eN : X.N = N
  es : X.env.scope = sc
  nd : N.Nodup
  hr : Room L.k X.A
  gd : X.A.guards = some []
  calm : X.calm = true
  fn : ∀ x, ca x = true → X.fn x = true
  tk : Takes X (fun cls d _ H => W cls d H)
  own : PassesOwn (model X.prog X.w) X.A X.env X.xe

section
variable (L : Lw) (N : List Str) (sc : Scope) (ca : Str → Bool) (W : XK)
/-- for each context: the reading t of e -/
def PEs (e : Expr) (t : TE) : Prop := ∀ X, Ctx L N sc ca W X → PE X e t
def PTs' (e : Expr) (t : TT) : Prop := ∀ X, Ctx L N sc ca W X → PT X e t
def PAs' (es : List Expr) (t : TA) : Prop := ∀ X, Ctx L N sc ca W X → PA X es t
/-- the reading holds where the evaluator says something -/
def SoE (t : TE) (f : Ev0) : Prop := ∀ (Ze : Addr → Prop) w σ ρ Q, Ok L.K L.mg Ze w → RepS L.K L.mg Ze w σ ρ → post L.K L.mg Ze W (f ρ w.φ) w (fun x w' => ∀ v, RepX L.K L.mg Ze w' v x → Q v w'.H) → t σ w.H Q
def SoT (t : TT) (f : EvT) : Prop := ∀ (Ze : Addr → Prop) w σ ρ Q, Ok L.K L.mg Ze w → RepS L.K L.mg Ze w σ ρ → post L.K L.mg Ze W (f ρ w.φ) w (fun b w' => Q b w'.H) → t σ w.H Q
def SoA (t : TA) (f : Ev1) : Prop := ∀ (Ze : Addr → Prop) w σ ρ Q, Ok L.K L.mg Ze w → RepS L.K L.mg Ze w σ ρ → post L.K L.mg Ze W (f ρ w.φ) w (fun xs w' => ∀ vs, RepXs L.K L.mg Ze w' vs xs → Q vs w'.H) → t σ w.H Q
/-- a new object -/
def NewAt (Ze : Addr → Prop) (w : Wd) (o : O) (w' : Wd) (Q : VK) : Prop := ∀ (p : Addr) (H' : Hp), Nx L.K L.mg Ze w ⟨w'.α ++ [p], w'.φ ++ [o], H'⟩ → Q (.ref p) H'
def SoF (t : TE) (f : List Sl → List O → R O) : Prop := ∀ (Ze : Addr → Prop) w σ ρ Q, Ok L.K L.mg Ze w → RepS L.K L.mg Ze w σ ρ → post L.K L.mg Ze W (f ρ w.φ) w (fun o w' => NewAt L Ze w' o w' Q) → t σ w.H Q
def SndE (e : Expr) (f : Ev0) : Prop := ∃ t, PEs L N sc ca W e t ∧ SoE L W t f
def SndT (e : Expr) (f : EvT) : Prop := ∃ t, PTs' L N sc ca W e t ∧ SoT L W t f
def SndA (es : List Expr) (f : Ev1) : Prop := ∃ t, PAs' L N sc ca W es t ∧ SoA L W t f
def SndF (e : Expr) (f : List Sl → List O → R O) : Prop := ∃ t, PEs L N sc ca W e t ∧ SoF L W t f
end

section
variable {L : Lw} {N : List Str} {sc : Scope} {ca : Str → Bool} {W : XK} {Ze : Addr → Prop} {w w' : Wd} {σ : SS} {ρ : List Sl} {X : Cx}

theorem Ctx.units (c : Ctx L N sc ca W X) : X.A.units + 64 < cLine := c.hr.units
theorem Ok.zd (ok : Ok L.K L.mg Ze w) : ZD w.H (Z Ze w) := fun a z e => by
  rcases z with z | ⟨j, o, h1, h2, _⟩
  · obtain ⟨o, h⟩ := ok.dom a z; rw [e] at h; cases h
  · obtain ⟨o, h⟩ := ok.adom j a h1; rw [e] at h; cases h

/-! ### values that an operation makes -/
theorem nx_ext {H' : Hp} (ok : Ok L.K L.mg Ze w) (e : Ext w.H H') : Nx L.K L.mg Ze w ⟨w.α, w.φ, H'⟩ := by
  obtain ⟨α, φ, H⟩ := w
  exact Nx.ext ok e
/-- from what is wanted behind: what an operation on trees owes -/
theorem aft_of {z : D} {Q : VK} (ok : Ok L.K L.mg Ze w) (h : post L.K L.mg Ze W (R.ok (X1.v z) w.φ) w (fun x w' => ∀ v, RepX L.K L.mg Ze w' v x → Q v w'.H)) : AftD L.K L.mg w.H (Z Ze w) z Q := fun v H' e r =>
  h ⟨w.α, w.φ, H'⟩ rfl (nx_ext ok e) v r
/-- the new object's world -/
theorem nx_new {p : Addr} {ho : HO} {o : O} (ok : Ok L.K L.mg Ze w) (n : w.H p = none) (r : NewO L.K L.mg w.H (Z Ze w) ho o) : Nx L.K L.mg Ze w ⟨w.α ++ [p], w.φ ++ [o], upd w.H p ho⟩ := by
  have hp : ∀ (j : Nat) a, w.α[j]? = some a → a ≠ p := fun j a e z => by
    obtain ⟨x, h⟩ := ok.adom j a e
    rw [z, n] at h; cases h
  have hpz : ¬ Ze p := fun z => by obtain ⟨x, h⟩ := ok.dom p z; rw [n] at h; cases h
  have lv : ∀ b, Live ⟨w.α ++ [p], w.φ ++ [o], upd w.H p ho⟩ b → Live w b ∨ b = p := fun b ⟨j, x, e1, e2, e3⟩ => by
    change (w.α ++ [p])[j]? = some b at e1
    change (w.φ ++ [o])[j]? = some x at e2
    by_cases hj : j < w.α.length
    · rw [List.getElem?_append_left hj] at e1
      rw [List.getElem?_append_left (by rw [← ok.len]; exact hj)] at e2
      exact .inl ⟨j, x, e1, e2, e3⟩
    · rw [List.getElem?_append_right (by omega)] at e1
      have := (List.getElem?_eq_some_iff.mp e1).1
      simp only [List.length_singleton] at this
      have hj0 : j - w.α.length = 0 := by omega
      rw [hj0] at e1
      cases e1
      exact .inr rfl
  have lv' : ∀ b, Live w b → Live ⟨w.α ++ [p], w.φ ++ [o], upd w.H p ho⟩ b := fun b ⟨j, x, e1, e2, e3⟩ =>
    ⟨j, x, by show (w.α ++ [p])[j]? = _; rw [List.getElem?_append_left (List.getElem?_eq_some_iff.mp e1).1]; exact e1, by show (w.φ ++ [o])[j]? = _; rw [List.getElem?_append_left (List.getElem?_eq_some_iff.mp e2).1]; exact e2, e3⟩
  have ke : Keeps w.H (upd w.H p ho) (Z Ze w) (Z Ze ⟨w.α ++ [p], w.φ ++ [o], upd w.H p ho⟩) := by
    refine ⟨fun a x e _ => Ext.upd n a x e, fun a x e => Ext.upd n a _ e, fun a x u e => Ext.upd n a _ e, fun a x e nz z => ?_⟩
    rcases z with z | z
    · exact nz (.inl z)
    · rcases lv a z with z | z
      · exact nz (.inr z)
      · rw [z, n] at e; cases e
  -- the new object's own trees: they stand apart from p
  have kn : ∀ a, Z Ze ⟨w.α ++ [p], w.φ ++ [o], upd w.H p ho⟩ a → Z Ze w a ∨ a = p := fun a z => by
    rcases z with z | z
    · exact .inl (.inl z)
    · rcases lv a z with z | z
      · exact .inl (.inr z)
      · exact .inr z
  refine ⟨⟨?_, ?_, fun a z => ?_, fun j a e => ?_, fun j a e => ?_, fun j a x e1 e2 => ?_⟩, ⟨⟨[p], rfl, fun b hb => ?_⟩, fun b x e _ => Ext.upd n b x e, fun b l => ?_, fun j ds e => ?_, fun b x e => ⟨x, Ext.upd n b x e⟩⟩⟩
  · simp [ok.len]
  · show (w.α ++ [p]).Nodup
    rw [List.nodup_append]
    refine ⟨ok.nd, by simp, fun a ha b hb => ?_⟩
    obtain ⟨j, hj⟩ := List.mem_iff_getElem?.mp ha
    rw [List.mem_singleton.mp hb]
    exact hp j a hj
  · obtain ⟨x, h⟩ := ok.dom a z
    exact ⟨x, Ext.upd n a x h⟩
  · change (w.α ++ [p])[j]? = some a at e
    by_cases hj : j < w.α.length
    · rw [List.getElem?_append_left hj] at e
      obtain ⟨x, h⟩ := ok.adom j a e
      exact ⟨x, Ext.upd n a x h⟩
    · rw [List.getElem?_append_right (by omega)] at e
      have := (List.getElem?_eq_some_iff.mp e).1
      simp only [List.length_singleton] at this
      have hj0 : j - w.α.length = 0 := by omega
      rw [hj0] at e
      cases e
      exact ⟨ho, upd_same⟩
  · change (w.α ++ [p])[j]? = some a at e
    by_cases hj : j < w.α.length
    · rw [List.getElem?_append_left hj] at e
      exact ok.out j a e
    · rw [List.getElem?_append_right (by omega)] at e
      have := (List.getElem?_eq_some_iff.mp e).1
      simp only [List.length_singleton] at this
      have hj0 : j - w.α.length = 0 := by omega
      rw [hj0] at e
      cases e
      exact hpz
  · change (w.α ++ [p])[j]? = some a at e1
    change (w.φ ++ [o])[j]? = some x at e2
    by_cases hj : j < w.α.length
    · rw [List.getElem?_append_left hj] at e1
      rw [List.getElem?_append_left (by rw [← ok.len]; exact hj)] at e2
      exact (ok.store j a x e1 e2).keepsL ke fun _ u h => Ext.upd n _ u h
    · rw [List.getElem?_append_right (by omega)] at e1
      rw [List.getElem?_append_right (by rw [← ok.len]; omega)] at e2
      have := (List.getElem?_eq_some_iff.mp e1).1
      simp only [List.length_singleton] at this
      have hj0 : j - w.α.length = 0 := by omega
      rw [hj0] at e1
      rw [← ok.len, hj0] at e2
      cases e1
      cases e2
      cases o with
      | lst ds => obtain ⟨vs, e, r⟩ := r; subst e; exact ⟨vs, upd_same, r.keeps ke⟩
      | dct ks ds => obtain ⟨kvs, e, q, r⟩ := r; subst e; exact ⟨kvs, upd_same, q, r.keeps ke⟩
      | lck ds => exact r.elim
      | ins c ns ds => exact r.elim
      | frz d => exact r.elim
  · exact List.mem_singleton.mp hb ▸ n
  · rcases lv b l with l | l
    · exact .inl l
    · exact .inr (l ▸ n)
  · show (w.φ ++ [o])[j]? = _
    rw [List.getElem?_append_left (List.getElem?_eq_some_iff.mp e).1]
    exact e

/-! ### a handle's content turns -/
theorem live_set {j : Nat} {a : Addr} {o o' : O} {H' : Hp} (ea : w.α[j]? = some a) (eo : w.φ[j]? = some o) (hl : o.live = true) {b : Addr} (l : Live ⟨w.α, w.φ.set j o', H'⟩ b) : Live w b := by
  obtain ⟨i, x, e1, e2, e3⟩ := l
  change w.α[i]? = some b at e1
  change (w.φ.set j o')[i]? = some x at e2
  by_cases hi : i = j
  · subst hi
    rw [ea] at e1; cases e1
    exact ⟨i, o, ea, eo, hl⟩
  · rw [List.getElem?_set_ne (Ne.symm hi)] at e2
    exact ⟨i, x, e1, e2, e3⟩
theorem keeps_set {j : Nat} {a : Addr} {o o' : O} {H' : Hp} (ok : Ok L.K L.mg Ze w) (ea : w.α[j]? = some a) (eo : w.φ[j]? = some o) (hl : o.live = true) (hk : ∀ b x, b ≠ a → w.H b = some x → H' b = some x) :
    Keeps w.H H' (Z Ze w) (Z Ze ⟨w.α, w.φ.set j o', H'⟩) := by
  have la : Live w a := ⟨j, o, ea, eo, hl⟩
  refine ⟨fun b x e n => hk b x (fun z => n (z ▸ .inr la)) e, fun b xs e => hk b _ (fun z => (ok.liveNot la).1 xs (z ▸ e)) e, fun b x u e => hk b _ (fun z => (ok.liveNot la).2 x u (z ▸ e)) e, fun b x _ n z => ?_⟩
  rcases z with z | z
  · exact n (.inl z)
  · exact n (.inr (live_set ea eo hl z))
theorem nx_set {j : Nat} {a : Addr} {o o' : O} {H' : Hp} (ok : Ok L.K L.mg Ze w) (ea : w.α[j]? = some a) (eo : w.φ[j]? = some o) (hl : o.live = true) (nl : ∀ ds, o = .lck ds → o' = o) (hk : ∀ b x, b ≠ a → w.H b = some x → H' b = some x) (ht : ∃ x, H' a = some x)
    (ro : RepO L.K L.mg H' (Z Ze ⟨w.α, w.φ.set j o', H'⟩) a o') : Nx L.K L.mg Ze w ⟨w.α, w.φ.set j o', H'⟩ := by
  have la : Live w a := ⟨j, o, ea, eo, hl⟩
  have ke := keeps_set (o' := o') ok ea eo hl hk
  have th : ∀ b x, w.H b = some x → ∃ y, H' b = some y := fun b x e => by
    by_cases hb : b = a
    · subst hb; exact ht
    · exact ⟨x, hk b x hb e⟩
  refine ⟨⟨by simpa using ok.len, ok.nd, fun b z => let ⟨x, h⟩ := ok.dom b z; th b x h, fun i b e => let ⟨x, h⟩ := ok.adom i b e; th b x h, ok.out, fun i b x e1 e2 => ?_⟩, ⟨⟨[], by simp, fun _ h => nomatch h⟩, fun b x e n => hk b x (fun z => n (z ▸ la)) e, fun b l => .inl (live_set ea eo hl l), fun i ds e => ?_, th⟩⟩
  · change w.α[i]? = some b at e1
    change (w.φ.set j o')[i]? = some x at e2
    by_cases hi : i = j
    · subst hi
      rw [ea] at e1; cases e1
      rw [List.getElem?_set_self (List.getElem?_eq_some_iff.mp eo).1] at e2; cases e2
      exact ro
    · rw [List.getElem?_set_ne (Ne.symm hi)] at e2
      refine (ok.store i b x e1 e2).keepsL ke fun _ u h => hk b u (fun z => hi ?_) h
      subst z
      obtain ⟨h1, g1⟩ := List.getElem?_eq_some_iff.mp e1
      obtain ⟨h2, g2⟩ := List.getElem?_eq_some_iff.mp ea
      exact (List.getElem_inj ok.nd).mp (g1.trans g2.symm)
  · show (w.φ.set j o')[i]? = _
    by_cases hi : i = j
    · subst hi
      rw [eo] at e; cases e
      rw [nl ds rfl, List.getElem?_set_self (List.getElem?_eq_some_iff.mp eo).1]
    · rw [List.getElem?_set_ne (Ne.symm hi)]; exact e
/-- a handle is frozen -/
theorem nx_frz {j : Nat} {a : Addr} {o : O} {d : D} (ok : Ok L.K L.mg Ze w) (ea : w.α[j]? = some a) (eo : w.φ[j]? = some o) (hd : o.toD = some d) :
    Nx L.K L.mg Ze w ⟨w.α, w.φ.set j (.frz d), w.H⟩ ∧ Rep L.K L.mg w.H (Z Ze ⟨w.α, w.φ.set j (.frz d), w.H⟩) (.ref a) d := by
  have hl : o.live = true := by cases o <;> first | rfl | cases hd
  have nl : ∀ ds, o = .lck ds → O.frz d = o := fun ds e => by subst e; cases hd
  have ke := keeps_set (o' := .frz d) (H' := w.H) ok ea eo hl fun _ _ _ e => e
  have nz : ¬ Z Ze ⟨w.α, w.φ.set j (.frz d), w.H⟩ a := by
    rintro (z | ⟨i, x, e1, e2, e3⟩)
    · exact ok.out j a ea z
    · change w.α[i]? = some a at e1
      change (w.φ.set j (.frz d))[i]? = some x at e2
      have hi : i = j := by
        obtain ⟨h1, g1⟩ := List.getElem?_eq_some_iff.mp e1
        obtain ⟨h2, g2⟩ := List.getElem?_eq_some_iff.mp ea
        exact (List.getElem_inj ok.nd).mp (g1.trans g2.symm)
      subst hi
      rw [List.getElem?_set_self (List.getElem?_eq_some_iff.mp eo).1] at e2; cases e2
      cases e3
  have r : Rep L.K L.mg w.H (Z Ze ⟨w.α, w.φ.set j (.frz d), w.H⟩) (.ref a) d := by
    have s := ok.store j a o ea eo
    cases o with
    | lst ds => cases hd; obtain ⟨vs, e, r⟩ := s; exact .lst e nz (r.keeps ke)
    | dct ks ds => cases hd; obtain ⟨kvs, e, q, r⟩ := s; exact .dct e nz q (r.keeps ke)
    | ins c ns ds => cases hd; obtain ⟨C, dx, fs, e, c, q, r⟩ := s; exact .ins e nz c q (r.keeps ke)
    | lck ds => cases hd
    | frz d => cases hd
  obtain ⟨x, hx⟩ := ok.adom j a ea
  exact ⟨nx_set ok ea eo hl nl (fun _ _ _ e => e) ⟨x, hx⟩ r, r⟩
theorem frzX_post {x : X1} {v : V} {k : D → Wd → Prop} (ok : Ok L.K L.mg Ze w) (r : RepX L.K L.mg Ze w v x) (h : post L.K L.mg Ze W (frzX x w.φ) w k) : ∃ d w', Nx L.K L.mg Ze w w' ∧ w'.H = w.H ∧ Rep L.K L.mg w'.H (Z Ze w') v d ∧ k d w' := by
  cases x with
  | v d => exact ⟨d, w, .refl ok, rfl, r, post.here ok h⟩
  | h j =>
    obtain ⟨a, ea, rfl⟩ := r
    have go : ∀ (o : O) (d : D), w.φ[j]? = some o → o.toD = some d → frzX (.h j) w.φ = .ok d (w.φ.set j (.frz d)) → ∃ d w', Nx L.K L.mg Ze w w' ∧ w'.H = w.H ∧ Rep L.K L.mg w'.H (Z Ze w') (.ref a) d ∧ k d w' := by
      intro o d eo hd ef
      rw [ef] at h
      obtain ⟨n, r⟩ := nx_frz ok ea eo hd
      exact ⟨d, _, n, rfl, r, h _ rfl n⟩
    cases q : w.φ[j]? with
    | none => simp only [frzX, q] at h; exact h.elim
    | some o =>
      cases o with
      | lst ds => exact go _ _ q rfl (by simp only [frzX, q])
      | dct ks ds => exact go _ _ q rfl (by simp only [frzX, q])
      | ins c ns ds => exact go _ _ q rfl (by simp only [frzX, q])
      | lck ds => simp only [frzX, q] at h; exact h.elim
      | frz d =>
        simp only [frzX, q] at h
        exact ⟨d, w, .refl ok, rfl, ok.store j a _ ea q, post.here ok h⟩
theorem frzXs_post : ∀ {xs : List X1} {vs : List V} {w : Wd} {k : List D → Wd → Prop}, Ok L.K L.mg Ze w → RepXs L.K L.mg Ze w vs xs → post L.K L.mg Ze W (frzXs xs w.φ) w k →
    ∃ ds w', Nx L.K L.mg Ze w w' ∧ w'.H = w.H ∧ Reps L.K L.mg w'.H (Z Ze w') vs ds ∧ k ds w'
  | [], _, w, k, ok, .nil, h => ⟨[], w, .refl ok, rfl, .nil, post.here ok h⟩
  | x :: xs, _, w, k, ok, .cons r t, h => by
    obtain ⟨d, w1, n1, e1, r1, h1⟩ := frzX_post ok r (post.bind h)
    obtain ⟨ds, w2, n2, e2, r2, h2⟩ := frzXs_post n1.ok (t.nx ok n1.st) (post.bind h1)
    exact ⟨d :: ds, w2, n1.trans n2, e2.trans e1, .cons (Rep.keeps (n2.st.keeps n1.ok) r1) r2, post.here n2.ok h2⟩
/-- a new handle that is dropped at once: a tree -/
theorem nx_drop {α : List Addr} {φ : List O} {p : Addr} {o : O} {d : D} {H' : Hp} (n : Nx L.K L.mg Ze w ⟨α ++ [p], φ ++ [o], H'⟩) (hp : w.α.length ≤ α.length) (hd : o.toD = some d) :
    Nx L.K L.mg Ze w ⟨α, φ, H'⟩ ∧ Rep L.K L.mg H' (Z Ze ⟨α, φ, H'⟩) (.ref p) d := by
  have ok := n.ok
  have hlen : α.length = φ.length := by have := ok.len; simpa using this
  have ep : (α ++ [p])[α.length]? = some p := by simp
  have eo : (φ ++ [o])[α.length]? = some o := by rw [hlen]; simp
  have sub : ∀ b, Live ⟨α, φ, H'⟩ b → Live ⟨α ++ [p], φ ++ [o], H'⟩ b := fun b ⟨j, x, e1, e2, e3⟩ =>
    ⟨j, x, by show (α ++ [p])[j]? = _; rw [List.getElem?_append_left (List.getElem?_eq_some_iff.mp e1).1]; exact e1, by show (φ ++ [o])[j]? = _; rw [List.getElem?_append_left (List.getElem?_eq_some_iff.mp e2).1]; exact e2, e3⟩
  have ke : Keeps H' H' (Z Ze ⟨α ++ [p], φ ++ [o], H'⟩) (Z Ze ⟨α, φ, H'⟩) := Keeps.zoneLe fun a z => z.elim .inl fun l => .inr (sub a l)
  have hnp : p ∉ α := fun hm => by
    have := ok.nd
    rw [List.nodup_append] at this
    exact this.2.2 p hm p (by simp) rfl
  have nz : ¬ Z Ze ⟨α, φ, H'⟩ p := by
    rintro (z | ⟨j, x, e1, _, _⟩)
    · exact ok.out _ p ep z
    · exact hnp (List.mem_of_getElem? e1)
  have ok' : Ok L.K L.mg Ze ⟨α, φ, H'⟩ := ⟨hlen, (List.nodup_append.mp ok.nd).1, ok.dom, fun j a e => ok.adom j a (by rw [List.getElem?_append_left (List.getElem?_eq_some_iff.mp e).1]; exact e),
    fun j a e => ok.out j a (by rw [List.getElem?_append_left (List.getElem?_eq_some_iff.mp e).1]; exact e), fun j a x e1 e2 =>
    (ok.store j a x (by rw [List.getElem?_append_left (List.getElem?_eq_some_iff.mp e1).1]; exact e1) (by rw [List.getElem?_append_left (List.getElem?_eq_some_iff.mp e2).1]; exact e2)).keepsL ke fun _ u h => h⟩
  have r : Rep L.K L.mg H' (Z Ze ⟨α, φ, H'⟩) (.ref p) d := by
    have s := ok.store α.length p o ep eo
    cases o with
    | lst ds => cases hd; obtain ⟨vs, e, r⟩ := s; exact .lst e nz (r.keeps ke)
    | dct ks ds => cases hd; obtain ⟨kvs, e, q, r⟩ := s; exact .dct e nz q (r.keeps ke)
    | ins c ns ds => cases hd; obtain ⟨C, dx, fs, e, c, q, r⟩ := s; exact .ins e nz c q (r.keeps ke)
    | lck ds => cases hd
    | frz d => cases hd
  obtain ⟨β, eβ, hβ⟩ := n.st.pre
  refine ⟨⟨ok', ⟨?_, n.st.keep, fun b l => n.st.live b (sub b l), fun j ds e => ?_, n.st.there⟩⟩, r⟩
  · change α ++ [p] = w.α ++ β at eβ
    have hb : β ≠ [] := fun z => by
      have := congrArg List.length eβ
      simp [z] at this
      omega
    refine ⟨β.dropLast, ?_, fun b hb => hβ b (List.dropLast_subset _ hb)⟩
    have := congrArg List.dropLast eβ
    rw [List.dropLast_concat, List.dropLast_append_of_ne_nil hb] at this
    exact this
  · have q := n.st.lck j ds e
    change (φ ++ [o])[j]? = some (.lck ds) at q
    show φ[j]? = _
    by_cases hj : j < φ.length
    · rw [List.getElem?_append_left hj] at q; exact q
    · rw [List.getElem?_append_right (by omega)] at q
      have h1 := (List.getElem?_eq_some_iff.mp q).1
      simp only [List.length_singleton] at h1
      have h0 : j - φ.length = 0 := by omega
      rw [h0] at q
      cases q
      cases hd
end
end Ev
/-! Part G: the rules for expressions. -/
namespace Ev
open PySem PySem.Spec PyProof.Rows L2
section
variable {L : Lw} {N : List Str} {sc : Scope} {ca : Str → Bool} {W : XK} {a b c e i z : Expr} {pos p : Pos} {fa fb fc fe fi fz : Ev0}

/-- a name of the def -/
def nameOk (N : List Str) (sc : Scope) (i : Nat) (x : Str) : Bool :=
  decide (N[i]? = some x) && (match sc.names.lookup x with | some .local => true | some .cell => true | some .free => true | _ => false) && !(x == ("__debug__" : Str)) && !(x == ("__classdict__" : Str))
theorem snd_slot {i : Nat} {x : Str} (h : nameOk N sc i x = true) (G : List FSem) : SndE L N sc ca W (.Name x pos) (ev G (.slot i)) := by
  unfold nameOk at h
  simp only [Bool.and_eq_true, decide_eq_true_eq, Bool.not_eq_true'] at h
  obtain ⟨⟨⟨h1, h2⟩, h3⟩, h4⟩ := h
  refine ⟨tVar i, fun X C => pe_var (by rw [C.eN]; exact h1) ?_ h3 h4, fun Ze w σ ρ Q ok rs h => ?_⟩
  · unfold Vis
    rw [C.es]
    revert h2
    cases sc.names.lookup x with
    | none => intro h; cases h
    | some k => cases k <;> intro h <;> first | exact .inl rfl | exact .inr (.inl rfl) | exact .inr (.inr rfl) | cases h
  · simp only [ev] at h
    cases q : ρ[i]? with
    | none => rw [q] at h; exact h.elim
    | some s =>
      rw [q] at h
      cases s with
      | u => exact h.elim
      | v d =>
        obtain ⟨v, e, r⟩ := rs.get (x := .v d) q
        exact ⟨v, e, post.here ok h v r⟩
      | h j =>
        obtain ⟨v, e, r⟩ := rs.get (x := .h j) q
        exact ⟨v, e, post.here ok h v r⟩
/-- constants -/
def conOk : Const → D → Bool
  | .int i, .int j => decide (i = j)
  | .bool a, .bl b => decide (a = b)
  | .none, .non => true
  | .str s, .str t => decide (s = t)
  | _, _ => false
theorem snd_con {k : Const} {d : D} {n : Nat} (h : conOk k d = true) (G : List FSem) : SndE L N sc ca W (.Constant k n pos) (ev G (.con d)) := by
  unfold conOk at h
  split at h
  · cases of_decide_eq_true h
    exact ⟨_, fun X C => pe_int, fun Ze w σ ρ Q ok rs h => post.here ok h _ (.int _)⟩
  · cases of_decide_eq_true h
    exact ⟨_, fun X C => pe_bl, fun Ze w σ ρ Q ok rs h => post.here ok h _ (.bl _)⟩
  · exact ⟨_, fun X C => pe_non, fun Ze w σ ρ Q ok rs h => post.here ok h _ .non⟩
  · cases of_decide_eq_true h
    exact ⟨_, fun X C => pe_str, fun Ze w σ ρ Q ok rs h => post.here ok h _ (.str _)⟩
  · cases h
/-- the module's names -/
def globOk (sc : Scope) (x : Str) : Bool := decide (sc.names.lookup x = some .globalImplicit) && !(x == ("__debug__" : Str))
theorem gl_of {X : Cx} {x : Str} (C : Ctx L N sc ca W X) (h : globOk sc x = true) : Gl X x ∧ (x == ("__debug__" : Str)) = false := by
  unfold globOk at h
  simp only [Bool.and_eq_true, decide_eq_true_eq, Bool.not_eq_true'] at h
  refine ⟨?_, h.2⟩
  show X.env.scope.names.lookup x = _
  rw [C.es]
  exact h.1
/-- what the module's name x holds: a tree -/
def GloV (L : Lw) (x : Str) (d : D) : Prop := ∃ v u, RelV v u ∧ (∀ H Zp, Rep L.K L.mg H Zp v d) ∧ (L.mg x = some u ∨ (L.mg x = none ∧ bootBuiltins x = some u ∧ x ≠ "__name__"))
theorem snd_glo {x : Str} {d : D} (h : globOk sc x = true) (g : GloV L x d) (G : List FSem) : SndE L N sc ca W (.Name x pos) (ev G (.glo x d)) := by
  obtain ⟨v, u, r, rp, hm⟩ := g
  refine ⟨tC v, fun X C => ?_, fun Ze w σ ρ Q ok rs h => post.here ok h _ (rp _ _)⟩
  obtain ⟨g1, g2⟩ := gl_of C h
  rcases hm with hm | ⟨hm, hb, hn⟩
  · exact pe_glob g1 (by rw [C.em]; exact hm) r g2
  · exact pe_bltn g1 (by rw [C.em]; exact hm) hb r hn g2
/-- two in a row -/
theorem run2 {ta tb : TE} (ha : SoE L W ta fa) (hb : SoE L W tb fb) {Ze : Addr → Prop} {w : Wd} {σ : SS} {ρ : List Sl} {β : Type} {g : X1 → X1 → List O → R β} {k : β → Wd → Prop} {R2' : V → V → Hp → Prop} (ok : Ok L.K L.mg Ze w) (rs : RepS L.K L.mg Ze w σ ρ)
    (h : post L.K L.mg Ze W ((fa ρ w.φ).bind fun x φ1 => (fb ρ φ1).bind fun y φ2 => g x y φ2) w k)
    (hf : ∀ x y v u w', Nx L.K L.mg Ze w w' → RepX L.K L.mg Ze w' v x → RepX L.K L.mg Ze w' u y → post L.K L.mg Ze W (g x y w'.φ) w' k → R2' v u w'.H) :
    ta σ w.H fun v H1 => tb σ H1 fun u H2 => R2' v u H2 := by
  refine ha Ze w σ ρ _ ok rs ((post.bind h).imp fun x w1 n1 h1 v r1 => ?_)
  refine hb Ze w1 σ ρ _ n1.ok (rs.nx ok n1.st) ((post.bind h1).imp fun y w2 n2 h2 u r2 => ?_)
  exact hf x y v u w2 (n1.trans n2) (r1.nx n1.ok n2.st) r2 h2
/-- an operation on trees -/
theorem op2_read {r : R2} {g : D → D → Option D} (os : OpS L.K L.mg r g) {Ze : Addr → Prop} {w : Wd} {x y : X1} {v u : V} {Q : VK} (ok : Ok L.K L.mg Ze w) (rx : RepX L.K L.mg Ze w v x) (ry : RepX L.K L.mg Ze w u y)
    (h : post L.K L.mg Ze W (op2 g x y w.φ) w (fun x w' => ∀ v, RepX L.K L.mg Ze w' v x → Q v w'.H)) : r v u w.H Q := by
  unfold op2 at h
  cases e1 : peek w.φ x with
  | none => rw [e1] at h; exact h.elim
  | some d =>
    cases e2 : peek w.φ y with
    | none => rw [e1, e2] at h; exact h.elim
    | some e =>
      cases e3 : g d e with
      | none => simp only [e1, e2, e3, Option.bind_some] at h; exact h.elim
      | some z =>
        simp only [e1, e2, e3, Option.bind_some, Option.map_some, R.ofOpt_some] at h
        exact os w.H (Z Ze w) v u d e z Q ok.zd (peek_rep ok rx e1) (peek_rep ok ry e2) e3 (aft_of ok h)
theorem op1_read {r : V → Hp → VK → Prop} {g : D → Option D} (os : UnS L.K L.mg r g) {Ze : Addr → Prop} {w : Wd} {x : X1} {v : V} {Q : VK} (ok : Ok L.K L.mg Ze w) (rx : RepX L.K L.mg Ze w v x)
    (h : post L.K L.mg Ze W (op1 g x w.φ) w (fun x w' => ∀ v, RepX L.K L.mg Ze w' v x → Q v w'.H)) : r v w.H Q := by
  unfold op1 at h
  cases e1 : peek w.φ x with
  | none => rw [e1] at h; exact h.elim
  | some d =>
    cases e3 : g d with
    | none => simp only [e1, e3, Option.bind_some] at h; exact h.elim
    | some z =>
      simp only [e1, e3, Option.bind_some, Option.map_some, R.ofOpt_some] at h
      exact os w.H (Z Ze w) v d z Q ok.zd (peek_rep ok rx e1) e3 (aft_of ok h)
theorem snd_op2 {r : R2} {g : D → D → Option D} {f : Ev0} (ha : SndE L N sc ca W a fa) (hb : SndE L N sc ca W b fb) (os : OpS L.K L.mg r g) (hx : ∀ X ta tb, Ctx L N sc ca W X → PE X a ta → PE X b tb → PE X e (tOp r ta tb))
    (hf : ∀ ρ φ, f ρ φ = (fa ρ φ).bind fun x φ1 => (fb ρ φ1).bind fun y φ2 => op2 g x y φ2) : SndE L N sc ca W e f := by
  obtain ⟨ta, pa, sa⟩ := ha
  obtain ⟨tb, pb, sb⟩ := hb
  refine ⟨tOp r ta tb, fun X C => hx X ta tb C (pa X C) (pb X C), fun Ze w σ ρ Q ok rs h => ?_⟩
  rw [hf] at h
  exact run2 sa sb (R2' := fun v u H => r v u H Q) ok rs h fun x y v u w' n r1 r2 h' => op2_read os n.ok r1 r2 h'
/-- the readings of the operators -/
def rBin (K : PySem.W.Frag) : Operator → R2
  | .Add => rAdd3 K | .Sub => rI0 fun i j => .int (i - j) | .Mult => rMul2 K | .FloorDiv => rI CDivN fun i j => .int (i.fdiv j) | .Mod => rI (fun _ j => j ≠ 0) fun i j => .int (i.fmod j)
  | .Pow => rI CPowE fun i j => .int (i ^ j.toNat)
  | _ => fun _ _ _ _ => False
theorem or_bin {X : Cx} : ∀ op : Operator, OpR X (binaryOp op) (rBin X.K op)
  | .Add => or_add | .Sub => op_sub | .Mult => or_mul | .FloorDiv => op_fdivN | .Mod => op_modN | .Pow => or_pow
  | .MatMult | .Div | .LShift | .RShift | .BitOr | .BitXor | .BitAnd => fun _ _ _ _ _ _ _ _ _ _ _ _ h => h.elim
theorem os_bin {K : PySem.W.Frag} {mg : Str → Option Value} : ∀ op : Operator, OpS K mg (rBin K op) (binD op)
  | .Add => os_add | .Sub => os_sub | .Mult => os_mul | .FloorDiv => os_fdiv | .Mod => os_mod | .Pow => os_pow
  | .MatMult | .Div | .LShift | .RShift | .BitOr | .BitXor | .BitAnd => fun _ _ _ _ _ _ _ _ _ _ _ h _ => by cases h
theorem snd_bin {op : Operator} {G : List FSem} {ia ib : IE} (ha : SndE L N sc ca W a (ev G ia)) (hb : SndE L N sc ca W b (ev G ib)) : SndE L N sc ca W (.BinOp a op b pos) (ev G (.bin op ia ib)) :=
  snd_op2 ha hb (os_bin op) (fun X ta tb C p1 p2 => by rw [← C.eK]; exact pe_op (or_bin op) p1 p2) fun ρ φ => by simp only [ev]
theorem snd_neg {G : List FSem} {ia : IE} (ha : SndE L N sc ca W a (ev G ia)) : SndE L N sc ca W (.UnaryOp .USub a pos) (ev G (.neg ia)) := by
  obtain ⟨ta, pa, sa⟩ := ha
  refine ⟨_, fun X C => pe_un un_neg (pa X C), fun Ze w σ ρ Q ok rs h => ?_⟩
  simp only [ev] at h
  exact sa Ze w σ ρ _ ok rs ((post.bind h).imp fun x w1 n1 h1 v r1 => op1_read os_neg n1.ok r1 h1)
/-! ### comparisons -/
def rCmp (K : PySem.W.Frag) : CmpOp → R2
  | .Eq => rEq2 K | .NotEq => rNe2 K | .Lt => rLt3 K | .LtE => rI0 fun i j => .bl (decide (i ≤ j)) | .Gt => rI0 fun i j => .bl (decide (j < i)) | .GtE => rI0 fun i j => .bl (decide (j ≤ i))
  | .Is => rIs2 | .IsNot => rIsn2 | .In => rIn3 K | .NotIn => rNin3 K
theorem or_cmp {X : Cx} (hu : X.A.units + 64 < cLine) : ∀ op : CmpOp, OpR X (compareOp op) (rCmp X.K op)
  | .Eq => or_eq hu | .NotEq => or_ne hu | .Lt => or_lt (by omega) | .LtE => op_le | .Gt => op_gt | .GtE => op_ge | .Is => or_is | .IsNot => or_isn | .In => or_in3 (by omega) | .NotIn => or_nin3 (by omega)
theorem os_cmp {K : PySem.W.Frag} {mg : Str → Option Value} : ∀ op : CmpOp, OpS K mg (rCmp K op) (cmpD op)
  | .Eq => os_eq | .NotEq => os_ne | .Lt => os_lt | .LtE => os_le | .Gt => os_gt | .GtE => os_ge | .Is => os_is | .IsNot => os_isn | .In => os_in3 | .NotIn => os_nin3
theorem snd_cmp {op : CmpOp} {G : List FSem} {ia ib : IE} (ha : SndE L N sc ca W a (ev G ia)) (hb : SndE L N sc ca W b (ev G ib)) (hm : behindInMarks op b = false) : SndE L N sc ca W (.Compare a [op] [b] pos) (ev G (.cmp op ia ib)) :=
  snd_op2 ha hb (os_cmp op) (fun X ta tb C p1 p2 => by rw [← C.eK]; exact pe_cmpR (or_cmp C.units op) p1 p2 hm) fun ρ φ => by simp only [ev]
/-- as a test: a value that is a bool -/
theorem cmp_bl {op : CmpOp} {d e z : D} (h : cmpD op d e = some z) : ∃ b, z = .bl b := by
  cases op <;> (simp only [cmpD] at h)
  · unfold eqD at h; cases q : eqB d e <;> rw [q] at h <;> cases h; exact ⟨_, rfl⟩
  · unfold neD at h; cases q : eqB d e <;> rw [q] at h <;> cases h; exact ⟨_, rfl⟩
  · unfold ltD at h; split at h <;> try (cases h; exact ⟨_, rfl⟩)
    · split at h <;> cases h; exact ⟨_, rfl⟩
    · cases h
  · unfold leD at h; split at h <;> cases h; exact ⟨_, rfl⟩
  · unfold gtD at h; split at h <;> cases h; exact ⟨_, rfl⟩
  · unfold geD at h; split at h <;> cases h; exact ⟨_, rfl⟩
  · unfold isD at h; cases q : isB d e <;> rw [q] at h <;> cases h; exact ⟨_, rfl⟩
  · unfold isnD at h; cases q : isB d e <;> rw [q] at h <;> cases h; exact ⟨_, rfl⟩
  · unfold inDE at h; cases q : inE d e <;> rw [q] at h <;> cases h; exact ⟨_, rfl⟩
  · unfold ninDE at h; cases q : inE d e <;> rw [q] at h <;> cases h; exact ⟨_, rfl⟩
theorem snt_cmp {op : CmpOp} {G : List FSem} {ia ib : IE} (ha : SndE L N sc ca W a (ev G ia)) (hb : SndE L N sc ca W b (ev G ib)) (hm : behindInMarks op b = false) : SndT L N sc ca W (.Compare a [op] [b] pos) (evT G (.cmp op ia ib)) := by
  obtain ⟨ta, pa, sa⟩ := ha
  obtain ⟨tb, pb, sb⟩ := hb
  refine ⟨tTest (tOp (rCmp L.K op) ta tb), fun X C => by rw [← C.eK]; exact pt_cmpR (or_cmp C.units op) (pa X C) (pb X C) hm, fun Ze w σ ρ Q ok rs h => ?_⟩
  unfold evT at h
  simp only [ev] at h
  have h' : post L.K L.mg Ze W ((ev G ia ρ w.φ).bind fun x φ1 => (ev G ib ρ φ1).bind fun y φ2 => (op2 (cmpD op) x y φ2).bind fun z φ3 => truX z φ3) w (fun b w' => Q b w'.H) := by
    revert h
    cases ev G ia ρ w.φ with
    | bad => exact fun h => h
    | exc c d φ => exact fun h => h
    | ok x φ1 =>
      simp only [R.bind_ok]
      cases ev G ib ρ φ1 with
      | bad => exact fun h => h
      | exc c d φ => exact fun h => h
      | ok y φ2 => exact fun h => h
  refine run2 sa sb (R2' := fun v u H => rCmp L.K op v u H fun x H' => ∃ k, x = .bl k ∧ Q k H') ok rs h' fun x y v u w' n r1 r2 h2 => ?_
  refine op2_read (Ze := Ze) (W := W) (os_cmp op) n.ok r1 r2 ?_
  have h3 := post.bind h2
  unfold op2 at h3 ⊢
  cases q : (peek w'.φ x).bind fun d => (peek w'.φ y).bind fun e => cmpD op d e with
  | none => rw [q] at h3; exact h3.elim
  | some z =>
    rw [q] at h3
    obtain ⟨bb, rfl⟩ : ∃ bb, z = .bl bb := by
      cases e1 : peek w'.φ x with
      | none => rw [e1] at q; cases q
      | some d =>
        cases e2 : peek w'.φ y with
        | none => rw [e1, e2] at q; cases q
        | some e =>
          rw [e1, e2] at q
          exact cmp_bl (op := op) (d := d) (e := e) q
    intro w2 e2 n2 vv r
    have h4 := h3 w2 e2 n2
    cases r
    exact ⟨bb, rfl, post.here n2.ok h4⟩
/-! ### truth -/
theorem tru_read {Ze : Addr → Prop} {w : Wd} {x : X1} {v : V} {k : Bool → Wd → Prop} (ok : Ok L.K L.mg Ze w) (rx : RepX L.K L.mg Ze w v x) (h : post L.K L.mg Ze W (truX x w.φ) w k) : ∃ b, TruV L.K v w.H b ∧ truX x w.φ = .ok b w.φ ∧ k b w := by
  unfold truX at h ⊢
  cases e1 : peek w.φ x with
  | none => rw [e1] at h; exact h.elim
  | some d =>
    have rb := peek_rep ok rx e1
    cases e2 : truth d with
    | none => simp only [e1, e2, Option.bind_some] at h; exact h.elim
    | some b =>
      simp only [e1, e2, Option.bind_some, R.ofOpt_some] at h ⊢
      refine ⟨b, ?_, rfl, post.here ok h⟩
      have emp : ∀ {vs : List V} {ds : List D}, Reps L.K L.mg w.H (Z Ze w) vs ds → vs.isEmpty = ds.isEmpty := fun {vs ds} r => by cases r <;> rfl
      cases d with
      | non => cases e2; rw [rb.non]; rfl
      | bl c => cases e2; rw [rb.bl]; rfl
      | int j => cases e2; rw [rb.int]; rfl
      | str s =>
        simp only [truth] at e2
        split at e2
        · cases e2; rw [rb.str]; exact ⟨by assumption, rfl⟩
        · cases e2
      | tup xs => cases e2; obtain ⟨p, vs, rfl, hp, r⟩ := rb.tupI; exact .inr (.inl ⟨vs, hp, by rw [emp r]⟩)
      | lst xs => cases e2; obtain ⟨p, vs, rfl, hp, r⟩ := rb.lstI; exact .inl ⟨vs, SqL.of hp, by rw [emp r]⟩
      | rls xs => cases e2; obtain ⟨p, vs, rfl, hp, r⟩ := rb.rlsI; exact .inl ⟨vs, hp.sqL, by rw [emp r]⟩
      | dct ks ds => cases e2; obtain ⟨p, kvs, rfl, hp, q, r⟩ := rb.dctI; exact .inr (.inr ⟨kvs, hp, by rw [← q]; cases kvs <;> rfl⟩)
      | wtp xs => cases e2
      | ins c ns ds => cases e2
      | glo x => cases e2
      | ty t => cases e2

theorem snd_not {G : List FSem} {ia : IE} (ha : SndE L N sc ca W a (ev G ia)) : SndE L N sc ca W (.UnaryOp .Not a pos) (ev G (.not ia)) := by
  obtain ⟨ta, pa, sa⟩ := ha
  refine ⟨tNotT L.K ta, fun X C => by rw [← C.eK]; exact pe_notT (pa X C), fun Ze w σ ρ Q ok rs h => ?_⟩
  simp only [ev] at h
  refine sa Ze w σ ρ _ ok rs ((post.bind h).imp fun x w1 n1 h1 v r1 => ?_)
  obtain ⟨b, tb, _, h2⟩ := tru_read n1.ok r1 (post.bind h1)
  exact ⟨b, tb, post.here n1.ok h2 _ (.bl _)⟩
theorem snd_one {op : BoolOp} {G : List FSem} {ia : IE} (ha : SndE L N sc ca W a (ev G ia)) : SndE L N sc ca W (.BoolOp op [a] pos) (ev G ia) := by
  obtain ⟨ta, pa, sa⟩ := ha
  exact ⟨ta, fun X C => pe_one (pa X C), sa⟩
theorem snd_and {G : List FSem} {ia ib : IE} {r : List Expr} (ha : SndE L N sc ca W a (ev G ia)) (hb : SndE L N sc ca W (.BoolOp .And (b :: r) pos) (ev G ib)) : SndE L N sc ca W (.BoolOp .And (a :: b :: r) pos) (ev G (.and ia ib)) := by
  obtain ⟨ta, pa, sa⟩ := ha
  obtain ⟨tb, pb, sb⟩ := hb
  refine ⟨tAndT L.K ta tb, fun X C => by rw [← C.eK]; exact pe_andT (pa X C) (pb X C), fun Ze w σ ρ Q ok rs h => ?_⟩
  simp only [ev] at h
  refine sa Ze w σ ρ _ ok rs ((post.bind h).imp fun x w1 n1 h1 v r1 => ?_)
  obtain ⟨k, tk, _, h2⟩ := tru_read n1.ok r1 (post.bind h1)
  refine ⟨k, tk, ?_⟩
  cases k with
  | true => exact sb Ze w1 σ ρ Q n1.ok (rs.nx ok n1.st) h2
  | false => exact post.here n1.ok h2 v r1
theorem snd_or {G : List FSem} {ia ib : IE} {r : List Expr} (ha : SndE L N sc ca W a (ev G ia)) (hb : SndE L N sc ca W (.BoolOp .Or (b :: r) pos) (ev G ib)) : SndE L N sc ca W (.BoolOp .Or (a :: b :: r) pos) (ev G (.or ia ib)) := by
  obtain ⟨ta, pa, sa⟩ := ha
  obtain ⟨tb, pb, sb⟩ := hb
  refine ⟨tOrT L.K ta tb, fun X C => by rw [← C.eK]; exact pe_orT (pa X C) (pb X C), fun Ze w σ ρ Q ok rs h => ?_⟩
  simp only [ev] at h
  refine sa Ze w σ ρ _ ok rs ((post.bind h).imp fun x w1 n1 h1 v r1 => ?_)
  obtain ⟨k, tk, _, h2⟩ := tru_read n1.ok r1 (post.bind h1)
  refine ⟨k, tk, ?_⟩
  cases k with
  | true => exact post.here n1.ok h2 v r1
  | false => exact sb Ze w1 σ ρ Q n1.ok (rs.nx ok n1.st) h2

/-! ### tests -/
/-- a test of any value, by truth -/
theorem snt_plain {G : List FSem} {ia : IE} (ha : SndE L N sc ca W a (ev G ia)) (he : ∀ (env : Env) whole, isTrue a env whole = (do let v ← whole; standAt a.pos; holding [v] (truthy v))) : SndT L N sc ca W a (evT G ia) := by
  obtain ⟨ta, pa, sa⟩ := ha
  refine ⟨fun σ H Q => ta σ H fun x H' => ∃ k, TruV L.K x H' k ∧ Q k H', fun X C => by rw [← C.eK]; exact pt_truth (pa X C) (he _), fun Ze w σ ρ Q ok rs h => ?_⟩
  unfold evT at h
  refine sa Ze w σ ρ _ ok rs ((post.bind h).imp fun x w1 n1 h1 v r1 => ?_)
  obtain ⟨k, tk, _, h2⟩ := tru_read n1.ok r1 h1
  exact ⟨k, tk, h2⟩
theorem snt_not {G : List FSem} {ia : IE} (ha : SndT L N sc ca W a (evT G ia)) : SndT L N sc ca W (.UnaryOp .Not a pos) (evT G (.not ia)) := by
  obtain ⟨ta, pa, sa⟩ := ha
  refine ⟨tNot ta, fun X C => pt_not (pa X C), fun Ze w σ ρ Q ok rs h => ?_⟩
  refine sa Ze w σ ρ _ ok rs ?_
  have e : evT G (.not ia) ρ w.φ = (evT G ia ρ w.φ).bind fun b φ => .ok (!b) φ := by
    unfold evT
    simp only [ev]
    cases ev G ia ρ w.φ with
    | bad => rfl
    | exc c d φ => rfl
    | ok x φ1 =>
      simp only [R.bind_ok]
      cases truX x φ1 <;> rfl
  rw [e] at h
  exact (post.bind h).imp fun b w1 n1 h1 => post.here n1.ok h1
def SndW (L : Lw) (N : List Str) (sc : Scope) (ca : Str → Bool) (W : XK) (op : BoolOp) (es : List Expr) (pos : Pos) (f : EvT) : Prop := ∃ t, (∀ X, Ctx L N sc ca W X → PW X (.BoolOp op es pos) t) ∧ SoT L W t f
theorem SndW.pt {op : BoolOp} {es : List Expr} {f : EvT} (h : SndW L N sc ca W op es pos f) : SndT L N sc ca W (.BoolOp op es pos) f := by
  obtain ⟨t, p, s⟩ := h
  exact ⟨t, fun X C => (p X C).pt, s⟩
theorem snw_and1 {f : EvT} (ha : SndT L N sc ca W a f) : SndW L N sc ca W .And [a] pos f := by
  obtain ⟨t, p, s⟩ := ha
  exact ⟨t, fun X C => pw_and1 (p X C), s⟩
theorem snw_or1 {f : EvT} (ha : SndT L N sc ca W a f) : SndW L N sc ca W .Or [a] pos f := by
  obtain ⟨t, p, s⟩ := ha
  exact ⟨t, fun X C => pw_or1 (p X C), s⟩
theorem evT_and {G : List FSem} {ia ib : IE} {ρ : List Sl} {φ : List O} : evT G (.and ia ib) ρ φ = (evT G ia ρ φ).bind fun t φ1 => if t then evT G ib ρ φ1 else .ok false φ1 := by
  unfold evT
  simp only [ev]
  cases ev G ia ρ φ with
  | bad => rfl
  | exc c d φ => rfl
  | ok x φ1 =>
    simp only [R.bind_ok]
    unfold truX
    cases q : (peek φ1 x).bind truth with
    | none => rfl
    | some b =>
      cases b with
      | true => rfl
      | false => simp only [R.ofOpt_some, R.bind_ok, Bool.false_eq_true, if_false, q]
theorem evT_or {G : List FSem} {ia ib : IE} {ρ : List Sl} {φ : List O} : evT G (.or ia ib) ρ φ = (evT G ia ρ φ).bind fun t φ1 => if t then .ok true φ1 else evT G ib ρ φ1 := by
  unfold evT
  simp only [ev]
  cases ev G ia ρ φ with
  | bad => rfl
  | exc c d φ => rfl
  | ok x φ1 =>
    simp only [R.bind_ok]
    unfold truX
    cases q : (peek φ1 x).bind truth with
    | none => rfl
    | some b =>
      cases b with
      | true => simp only [R.ofOpt_some, R.bind_ok, if_true, q]
      | false => simp only [R.ofOpt_some, R.bind_ok, Bool.false_eq_true, if_false]
theorem snw_and {G : List FSem} {ia ib : IE} {r : List Expr} (ha : SndT L N sc ca W a (evT G ia)) (hb : SndW L N sc ca W .And (b :: r) pos (evT G ib)) : SndW L N sc ca W .And (a :: b :: r) pos (evT G (.and ia ib)) := by
  obtain ⟨ta, pa, sa⟩ := ha
  obtain ⟨tb, pb, sb⟩ := hb
  refine ⟨tAnd ta tb, fun X C => pw_and (pa X C) (pb X C), fun Ze w σ ρ Q ok rs h => ?_⟩
  rw [evT_and] at h
  refine sa Ze w σ ρ _ ok rs ((post.bind h).imp fun t w1 n1 h1 => ?_)
  cases t with
  | true => exact sb Ze w1 σ ρ Q n1.ok (rs.nx ok n1.st) h1
  | false => exact post.here n1.ok h1
theorem snw_or {G : List FSem} {ia ib : IE} {r : List Expr} (ha : SndT L N sc ca W a (evT G ia)) (hb : SndW L N sc ca W .Or (b :: r) pos (evT G ib)) : SndW L N sc ca W .Or (a :: b :: r) pos (evT G (.or ia ib)) := by
  obtain ⟨ta, pa, sa⟩ := ha
  obtain ⟨tb, pb, sb⟩ := hb
  refine ⟨tOr ta tb, fun X C => pw_or (pa X C) (pb X C), fun Ze w σ ρ Q ok rs h => ?_⟩
  rw [evT_or] at h
  refine sa Ze w σ ρ _ ok rs ((post.bind h).imp fun t w1 n1 h1 => ?_)
  cases t with
  | true => exact post.here n1.ok h1
  | false => exact sb Ze w1 σ ρ Q n1.ok (rs.nx ok n1.st) h1
/-! ### a if c else b -/
theorem ev_ifx {G : List FSem} {ic ia ib : IE} {ρ : List Sl} {φ : List O} : ev G (.ifx ic ia ib) ρ φ = (evT G ic ρ φ).bind fun t φ1 => if t then ev G ia ρ φ1 else ev G ib ρ φ1 := by
  unfold evT
  simp only [ev]
  cases ev G ic ρ φ with
  | bad => rfl
  | exc c d φ => rfl
  | ok x φ1 => rfl
theorem snd_ifx {G : List FSem} {ic ia ib : IE} (hc : SndT L N sc ca W c (evT G ic)) (ha : SndE L N sc ca W a (ev G ia)) (hb : SndE L N sc ca W b (ev G ib)) : SndE L N sc ca W (.IfExp c a b pos) (ev G (.ifx ic ia ib)) := by
  obtain ⟨tc, pc, hc⟩ := hc
  obtain ⟨ta, pa, sa⟩ := ha
  obtain ⟨tb, pb, sb⟩ := hb
  refine ⟨tIf tc ta tb, fun X C => pe_ifExp (pc X C) (pa X C) (pb X C), fun Ze w σ ρ Q ok rs h => ?_⟩
  rw [ev_ifx] at h
  refine hc Ze w σ ρ _ ok rs ((post.bind h).imp fun t w1 n1 h1 => ?_)
  cases t with
  | true => exact sa Ze w1 σ ρ Q n1.ok (rs.nx ok n1.st) h1
  | false => exact sb Ze w1 σ ρ Q n1.ok (rs.nx ok n1.st) h1
theorem pt_ifExp {X : Cx} {tc ta tb : TT} (hc : PT X c tc) (ha : PT X a ta) (hb : PT X b tb) : PT X (.IfExp c a b pos) (fun σ H Q => tc σ H fun t H1 => if t = true then ta σ H1 Q else tb σ H1 Q) := by
  refine ⟨fun pins s σ H Q I h => ?_⟩
  have e : ∀ whole, isTrue (.IfExp c a b pos) X.env whole = (do if ← isTrue c X.env (eval c X.env) then isTrue a X.env (eval a X.env) else isTrue b X.env (eval b X.env)) := fun whole => by
    conv => lhs; unfold PySem.isTrue
  rw [e]
  refine wpAny_bind (thn (hc.run pins s σ H _ I h) fun d s1 ⟨H1, I1, q1⟩ => ?_)
  cases d with
  | true => exact ha.run pins s1 σ H1 Q I1 q1
  | false => exact hb.run pins s1 σ H1 Q I1 q1
theorem evT_ifx {G : List FSem} {ic ia ib : IE} {ρ : List Sl} {φ : List O} : evT G (.ifx ic ia ib) ρ φ = (evT G ic ρ φ).bind fun t φ1 => if t then evT G ia ρ φ1 else evT G ib ρ φ1 := by
  show (ev G (.ifx ic ia ib) ρ φ).bind _ = _
  rw [ev_ifx]
  cases evT G ic ρ φ with
  | bad => rfl
  | exc c d φ => rfl
  | ok t φ1 => cases t <;> rfl
theorem snt_ifx {G : List FSem} {ic ia ib : IE} (hc : SndT L N sc ca W c (evT G ic)) (ha : SndT L N sc ca W a (evT G ia)) (hb : SndT L N sc ca W b (evT G ib)) : SndT L N sc ca W (.IfExp c a b pos) (evT G (.ifx ic ia ib)) := by
  obtain ⟨tc, pc, hc⟩ := hc
  obtain ⟨ta, pa, sa⟩ := ha
  obtain ⟨tb, pb, sb⟩ := hb
  refine ⟨_, fun X C => pt_ifExp (pc X C) (pa X C) (pb X C), fun Ze w σ ρ Q ok rs h => ?_⟩
  rw [evT_ifx] at h
  refine hc Ze w σ ρ _ ok rs ((post.bind h).imp fun t w1 n1 h1 => ?_)
  cases t with
  | true => exact sa Ze w1 σ ρ Q n1.ok (rs.nx ok n1.st) h1
  | false => exact sb Ze w1 σ ρ Q n1.ok (rs.nx ok n1.st) h1
/-! ### a < b < c -/
theorem op2_cmp_bl {op : CmpOp} {x y : X1} {φ φ' : List O} {z : X1} (h : op2 (cmpD op) x y φ = .ok z φ') : ∃ b, z = .v (.bl b) := by
  unfold op2 at h
  cases q : (peek φ x).bind fun d => (peek φ y).bind fun e => cmpD op d e with
  | none => rw [q] at h; cases h
  | some u =>
    rw [q] at h
    cases h
    cases e1 : peek φ x with
    | none => rw [e1] at q; cases q
    | some d =>
      cases e2 : peek φ y with
      | none => rw [e1, e2] at q; cases q
      | some e =>
        rw [e1, e2] at q
        obtain ⟨b, rfl⟩ := cmp_bl (op := op) (d := d) (e := e) q
        exact ⟨b, rfl⟩
/-- the reading of a chain, whatever is done with its value -/
theorem chn_read {op op' : CmpOp} {G : List FSem} {ia ib ic : IE} {ta tb tc : TE} (sa : SoE L W ta (ev G ia)) (sb : SoE L W tb (ev G ib)) (sc' : SoE L W tc (ev G ic)) {Ze : Addr → Prop} {w : Wd} {σ : SS} {ρ : List Sl} {Q : VK} (ok : Ok L.K L.mg Ze w) (rs : RepS L.K L.mg Ze w σ ρ)
    (h : post L.K L.mg Ze W (ev G (.chn op op' ia ib ic) ρ w.φ) w (fun x w' => ∀ v, RepX L.K L.mg Ze w' v x → Q v w'.H)) : tChain (rCmp L.K op) (rCmp L.K op') ta tb tc σ w.H Q := by
  simp only [ev] at h
  refine sa Ze w σ ρ _ ok rs ((post.bind h).imp fun x w1 n1 h1 v r1 => ?_)
  refine sb Ze w1 σ ρ _ n1.ok (rs.nx ok n1.st) ((post.bind h1).imp fun y w2 n2 h2 u r2 => ?_)
  have r1' := r1.nx n1.ok n2.st
  refine op2_read (Ze := Ze) (W := W) (os_cmp op) n2.ok r1' r2 ((post.bind h2).imp fun z w3 n3 h3 vv r => ?_)
  have rs3 := ((rs.nx ok n1.st).nx n1.ok n2.st).nx n2.ok n3.st
  cases z with
  | h j => exact h3.elim
  | v d =>
    cases d with
    | bl b =>
      cases r
      refine ⟨b, rfl, ?_⟩
      cases b with
      | false => exact post.here n3.ok h3 _ (.bl _)
      | true =>
        refine sc' Ze w3 σ ρ _ n3.ok rs3 ((post.bind h3).imp fun t w4 n4 h4 vt r4 => ?_)
        exact op2_read (Ze := Ze) (W := W) (os_cmp op') n4.ok ((r2.nx n2.ok n3.st).nx n3.ok n4.st) r4 h4
    | _ => exact h3.elim
theorem snd_chn {op op' : CmpOp} {G : List FSem} {ia ib ic : IE} (ha : SndE L N sc ca W a (ev G ia)) (hb : SndE L N sc ca W b (ev G ib)) (hc : SndE L N sc ca W c (ev G ic)) (hm : lastMarks [op, op'] [b, c] = false) :
    SndE L N sc ca W (.Compare a [op, op'] [b, c] pos) (ev G (.chn op op' ia ib ic)) := by
  obtain ⟨ta, pa, sa⟩ := ha
  obtain ⟨tb, pb, sb⟩ := hb
  obtain ⟨tc, pc, sc'⟩ := hc
  exact ⟨_, fun X C => by rw [← C.eK]; exact pe_chain (or_cmp C.units op) (or_cmp C.units op') (pa X C) (pb X C) (pc X C) hm, fun Ze w σ ρ Q ok rs h => chn_read sa sb sc' ok rs h⟩
theorem chn_bl {op op' : CmpOp} {G : List FSem} {ia ib ic : IE} {ρ : List Sl} {φ φ' : List O} {z : X1} (h : ev G (.chn op op' ia ib ic) ρ φ = .ok z φ') : ∃ b, z = .v (.bl b) := by
  simp only [ev] at h
  cases h1 : ev G ia ρ φ with
  | bad => rw [h1] at h; cases h
  | exc c d φ => rw [h1] at h; cases h
  | ok x φ1 =>
    rw [h1] at h
    simp only [R.bind_ok] at h
    cases h2 : ev G ib ρ φ1 with
    | bad => rw [h2] at h; cases h
    | exc c d φ => rw [h2] at h; cases h
    | ok y φ2 =>
      rw [h2] at h
      simp only [R.bind_ok] at h
      cases h3 : op2 (cmpD op) x y φ2 with
      | bad => rw [h3] at h; cases h
      | exc c d φ => rw [h3] at h; cases h
      | ok u φ3 =>
        rw [h3] at h
        obtain ⟨b, rfl⟩ := op2_cmp_bl h3
        simp only [R.bind_ok] at h
        cases b with
        | false => cases h; exact ⟨_, rfl⟩
        | true =>
          simp only at h
          cases h4 : ev G ic ρ φ3 with
          | bad => rw [h4] at h; cases h
          | exc c d φ => rw [h4] at h; cases h
          | ok t φ4 =>
            rw [h4] at h
            exact op2_cmp_bl h
theorem snt_chn {op op' : CmpOp} {G : List FSem} {ia ib ic : IE} (ha : SndE L N sc ca W a (ev G ia)) (hb : SndE L N sc ca W b (ev G ib)) (hc : SndE L N sc ca W c (ev G ic)) (hm : lastMarks [op, op'] [b, c] = false) :
    SndT L N sc ca W (.Compare a [op, op'] [b, c] pos) (evT G (.chn op op' ia ib ic)) := by
  obtain ⟨ta, pa, sa⟩ := ha
  obtain ⟨tb, pb, sb⟩ := hb
  obtain ⟨tc, pc, sc'⟩ := hc
  refine ⟨tTest (tChain (rCmp L.K op) (rCmp L.K op') ta tb tc), fun X C => by rw [← C.eK]; exact pt_chain (or_cmp C.units op) (or_cmp C.units op') (pa X C) (pb X C) (pc X C) hm, fun Ze w σ ρ Q ok rs h => ?_⟩
  refine chn_read sa sb sc' ok rs ?_
  have h' := post.bind h
  revert h'
  cases e : ev G (.chn op op' ia ib ic) ρ w.φ with
  | bad => exact fun h => h
  | exc c d φ => exact fun h => h
  | ok z φ1 =>
    obtain ⟨b, rfl⟩ := chn_bl e
    intro h' w2 e2 n2 v r
    cases r
    exact ⟨b, rfl, post.here n2.ok (h' w2 e2 n2)⟩
end
end Ev
/-! Part H: arguments, displays, subscripts, built-ins. -/
namespace Ev
open PySem PySem.Spec PyProof.Rows L2
/-! ### how it is written -/
def noStar : Expr → Bool
  | .Starred _ _ => false
  | _ => true
theorem starEach_cons {e : Expr} {es : List Expr} {env : Env} (h : noStar e = true) : starEach (e :: es) env = (false, eval e env) :: starEach es env := by
  cases e <;> first | rfl | cases h
theorem backTo_any {es : List Expr} {env : Env} {pos : Pos} (h : es.all noStar = true) : (backTo pos (starEach es env)).any (·.1) = false := by
  induction es with
  | nil => rfl
  | cons e es ih =>
    rw [List.all_cons, Bool.and_eq_true] at h
    rw [starEach_cons h.1]
    show (false || (backTo pos (starEach es env)).any (·.1)) = false
    rw [ih h.2]; rfl
def noSlice : Expr → Bool
  | .Slice _ _ _ _ => false
  | _ => true
theorem plainIx {e : Expr} (h : noSlice e = true) : PlainIx e := by
  intro o i
  cases e <;> first | rfl | cases h
/-- what is no call: nothing is asked of super() -/
def noCall0 : Expr → Bool
  | .Call (.Name _ _) [] [] _ => false
  | _ => true
theorem attrBase {e : Expr} {m : Str} {env : Env} {x : Sem Value} (h : noCall0 e = true) : attributeBase e m env x = x := by
  unfold attributeBase
  split
  · cases h
  · rfl

section
variable {L : Lw} {N : List Str} {sc : Scope} {ca : Str → Bool} {W : XK} {a b c e i z : Expr} {es : List Expr} {pos p : Pos} {G : List FSem} {ia ib ic ie : IE} {ies : List IE}
theorem sna_nil : SndA L N sc ca W [] (evs G []) := ⟨tNil, fun X C => pa_nil, fun Ze w σ ρ Q ok rs h => by simp only [evs] at h; exact post.here ok h _ .nil⟩
theorem sna_cons (ha : SndE L N sc ca W e (ev G ie)) (hs : SndA L N sc ca W es (evs G ies)) (h : noStar e = true) : SndA L N sc ca W (e :: es) (evs G (ie :: ies)) := by
  obtain ⟨ta, pa, sa⟩ := ha
  obtain ⟨ts, ps, ss⟩ := hs
  refine ⟨tCons ta ts, fun X C => pa_cons (pa X C) (ps X C) (starEach_cons h), fun Ze w σ ρ Q ok rs h => ?_⟩
  simp only [evs] at h
  refine sa Ze w σ ρ _ ok rs ((post.bind h).imp fun x w1 n1 h1 v r1 => ?_)
  refine ss Ze w1 σ ρ _ n1.ok (rs.nx ok n1.st) ((post.bind h1).imp fun xs w2 n2 h2 vs r2 => ?_)
  exact post.here n2.ok h2 _ (.cons (r1.nx n1.ok n2.st) r2)
/-! ### displays -/
theorem snd_tup {k : Nat} (hs : SndA L N sc ca W es (evs G ies)) : SndE L N sc ca W (.Tuple es k pos) (ev G (.tup ies)) := by
  obtain ⟨ts, ps, ss⟩ := hs
  refine ⟨tTupS ts, fun X C => pe_tupS (ps X C), fun Ze w σ ρ Q ok rs h => ?_⟩
  simp only [ev] at h
  refine ss Ze w σ ρ _ ok rs ((post.bind h).imp fun xs w1 n1 h1 vs r1 => ?_)
  obtain ⟨ds, w2, n2, e2, r2, h2⟩ := frzXs_post n1.ok r1 (post.bind h1)
  by_cases hl : ds.length ≤ sizeLine
  · rw [if_pos hl] at h2
    have ha := aft_of (L := L) (W := W) n2.ok h2
    rw [← e2]
    exact ⟨by rw [r2.length]; exact hl, ha.tup r2⟩
  · rw [if_neg hl] at h2; exact h2.elim
theorem new_of {Ze : Addr → Prop} {w : Wd} {o : O} {Q : VK} (ok : Ok L.K L.mg Ze w) (h : NewAt L Ze w o w Q) : AftO L.K L.mg w.H (Z Ze w) o Q := fun p ho n r => h p _ (nx_new ok n r)
theorem snf_lst (hs : SndA L N sc ca W es (evs G ies)) : SndF L N sc ca W (.List es pos) (evF G (.lst ies)) := by
  obtain ⟨ts, ps, ss⟩ := hs
  refine ⟨tLst ts, fun X C => pe_lst (ps X C), fun Ze w σ ρ Q ok rs h => ?_⟩
  simp only [evF] at h
  refine ss Ze w σ ρ _ ok rs ((post.bind h).imp fun xs w1 n1 h1 vs r1 => ?_)
  obtain ⟨ds, w2, n2, e2, r2, h2⟩ := frzXs_post n1.ok r1 (post.bind h1)
  by_cases hl : ds.length ≤ sizeLine
  · rw [if_pos hl] at h2
    have ha := new_of (L := L) n2.ok (post.here n2.ok h2)
    rw [← e2]
    exact ⟨by rw [r2.length]; exact hl, ha.lst r2⟩
  · rw [if_neg hl] at h2; exact h2.elim
theorem snf_dnew : SndF L N sc ca W (.Dict [] [] pos) (evF G .dnew) := by
  refine ⟨_, fun X C => pe_dnewK, fun Ze w σ ρ Q ok rs h => ?_⟩
  simp only [evF] at h
  exact fun p n => (new_of (L := L) ok (post.here ok h)) p _ n ⟨[], rfl, rfl, .nil⟩
/-- a new object as a handle, as a tree -/
theorem snd_new {f : IF} (ha : SndF L N sc ca W e (evF G f)) : SndE L N sc ca W e (ev G (.new f)) := by
  obtain ⟨ta, pa, sa⟩ := ha
  refine ⟨ta, pa, fun Ze w σ ρ Q ok rs h => ?_⟩
  simp only [ev] at h
  refine sa Ze w σ ρ _ ok rs ((post.bind h).imp fun o w1 n1 h1 p H' n2 => ?_)
  refine h1 _ rfl n2 _ ⟨p, ?_, rfl⟩
  show (w1.α ++ [p])[w1.φ.length]? = _
  rw [← n1.ok.len]
  simp
theorem snd_frz {f : IF} (ha : SndF L N sc ca W e (evF G f)) : SndE L N sc ca W e (ev G (.frz f)) := by
  obtain ⟨ta, pa, sa⟩ := ha
  refine ⟨ta, pa, fun Ze w σ ρ Q ok rs h => ?_⟩
  simp only [ev] at h
  refine sa Ze w σ ρ _ ok rs ((post.bind h).imp fun o w1 n1 h1 p H' n2 => ?_)
  cases hd : o.toD with
  | none => rw [hd] at h1; exact h1.elim
  | some d =>
    rw [hd] at h1
    obtain ⟨n3, r⟩ := nx_drop n2 (Nat.le_refl _) hd
    exact h1 ⟨w1.α, w1.φ, H'⟩ rfl n3 _ r
/-! ### a[i], a[lo:hi], a[::-1] -/
theorem snd_ix (ha : SndE L N sc ca W a (ev G ia)) (hb : SndE L N sc ca W b (ev G ib)) (h : noSlice b = true) : SndE L N sc ca W (.Subscript a b pos) (ev G (.ix ia ib)) :=
  snd_op2 ha hb os_ixE (fun X ta tb C p1 p2 => by rw [← C.eK]; exact pe_ix (ix_E (by have := C.units; omega)) p1 p2 (plainIx h)) fun ρ φ => by simp only [ev]
def SndP (L : Lw) (N : List Str) (sc : Scope) (ca : Str → Bool) (W : XK) (e : Option Expr) (f : List Sl → List O → R (Option Int)) : Prop :=
  ∃ t : TO, (∀ X, Ctx L N sc ca W X → PO X e t) ∧ ∀ (Ze : Addr → Prop) w σ ρ Q, Ok L.K L.mg Ze w → RepS L.K L.mg Ze w σ ρ → post L.K L.mg Ze W (f ρ w.φ) w (fun o w' => Q o w'.H) → t σ w.H Q
theorem snp_none : SndP L N sc ca W none (evP G none) := ⟨tNoPart, fun X C => po_none, fun Ze w σ ρ Q ok rs h => by simp only [evP] at h; exact post.here ok h⟩
theorem snp_some (ha : SndE L N sc ca W a (ev G ia)) : SndP L N sc ca W (some a) (evP G (some ia)) := by
  obtain ⟨ta, pa, sa⟩ := ha
  refine ⟨tPart ta, fun X C => po_some (pa X C), fun Ze w σ ρ Q ok rs h => ?_⟩
  simp only [evP] at h
  refine sa Ze w σ ρ _ ok rs ((post.bind h).imp fun x w1 n1 h1 v r1 => ?_)
  cases e1 : peek w1.φ x with
  | none => rw [e1] at h1; exact h1.elim
  | some d =>
    rw [e1] at h1
    have rb := peek_rep n1.ok r1 e1
    cases d with
    | int j => exact ⟨j, rb.int, post.here n1.ok h1⟩
    | _ => exact h1.elim
theorem snd_sl {lo hi : Option Expr} {il ih : Option IE} {p2 : Pos} (ha : SndE L N sc ca W a (ev G ia)) (hl : SndP L N sc ca W lo (evP G il)) (hh : SndP L N sc ca W hi (evP G ih)) : SndE L N sc ca W (.Subscript a (.Slice lo hi none p2) pos) (ev G (.sl ia il ih)) := by
  obtain ⟨ta, pa, sa⟩ := ha
  obtain ⟨tl, pl, sl⟩ := hl
  obtain ⟨th, ph, sh⟩ := hh
  refine ⟨tSl (rSlAll L.K) ta tl th, fun X C => by rw [← C.eK]; exact pe_slice sl_all (pa X C) (pl X C) (ph X C), fun Ze w σ ρ Q ok rs h => ?_⟩
  simp only [ev] at h
  refine sa Ze w σ ρ _ ok rs ((post.bind h).imp fun x w1 n1 h1 v r1 => ?_)
  refine sl Ze w1 σ ρ _ n1.ok (rs.nx ok n1.st) ((post.bind h1).imp fun l w2 n2 h2 => ?_)
  refine sh Ze w2 σ ρ _ n2.ok ((rs.nx ok n1.st).nx n1.ok n2.st) ((post.bind h2).imp fun u w3 n3 h3 => ?_)
  exact op1_read (r := fun v H Q => rSlAll L.K v l u H Q) (g := fun d => slD d l u) (fun H Zp v d z Q zd rv hg hq => ss_sl zd rv hg hq) n3.ok ((r1.nx n1.ok n2.st).nx n2.ok n3.st) h3
theorem snf_sl {lo hi : Option Expr} {il ih : Option IE} {p2 : Pos} (ha : SndE L N sc ca W a (ev G ia)) (hl : SndP L N sc ca W lo (evP G il)) (hh : SndP L N sc ca W hi (evP G ih)) : SndF L N sc ca W (.Subscript a (.Slice lo hi none p2) pos) (evF G (.sl ia il ih)) := by
  obtain ⟨ta, pa, sa⟩ := ha
  obtain ⟨tl, pl, sl⟩ := hl
  obtain ⟨th, ph, sh⟩ := hh
  refine ⟨tSl (rSlAll L.K) ta tl th, fun X C => by rw [← C.eK]; exact pe_slice sl_all (pa X C) (pl X C) (ph X C), fun Ze w σ ρ Q ok rs h => ?_⟩
  simp only [evF] at h
  refine sa Ze w σ ρ _ ok rs ((post.bind h).imp fun x w1 n1 h1 v r1 => ?_)
  refine sl Ze w1 σ ρ _ n1.ok (rs.nx ok n1.st) ((post.bind h1).imp fun l w2 n2 h2 => ?_)
  refine sh Ze w2 σ ρ _ n2.ok ((rs.nx ok n1.st).nx n1.ok n2.st) ((post.bind h2).imp fun u w3 n3 h3 => ?_)
  obtain ⟨o, e, h4⟩ := post.opt n3.ok h3
  cases e1 : peek w3.φ x with
  | none => rw [e1] at e; cases e
  | some d =>
    rw [e1] at e
    exact ss_slF (peek_rep n3.ok ((r1.nx n1.ok n2.st).nx n2.ok n3.st) e1) e (new_of n3.ok h4)
/-! ### lists: + and * as handles -/
theorem os_catA {K : PySem.W.Frag} {mg : Str → Option Value} : OpSF K mg (rAdd3 K) catF := fun H Zp v u d e z Q rv ru hg hq => .inr (.inr (.inr (os_cat H Zp v u d e z Q rv ru hg hq)))
theorem os_repA {K : PySem.W.Frag} {mg : Str → Option Value} : OpSF K mg (rMul2 K) repF := fun H Zp v u d e z Q rv ru hg hq => .inr (.inr (os_rep H Zp v u d e z Q rv ru hg hq))
theorem snf_op2 {r : R2} {g : D → D → Option O} {f : List Sl → List O → R O} (ha : SndE L N sc ca W a (ev G ia)) (hb : SndE L N sc ca W b (ev G ib)) (os : OpSF L.K L.mg r g) (hx : ∀ X ta tb, Ctx L N sc ca W X → PE X a ta → PE X b tb → PE X e (tOp r ta tb))
    (hf : ∀ ρ φ, f ρ φ = (ev G ia ρ φ).bind fun x φ1 => (ev G ib ρ φ1).bind fun y φ2 => R.ofOpt φ2 ((peek φ2 x).bind fun d => (peek φ2 y).bind fun e => g d e)) : SndF L N sc ca W e f := by
  obtain ⟨ta, pa, sa⟩ := ha
  obtain ⟨tb, pb, sb⟩ := hb
  refine ⟨tOp r ta tb, fun X C => hx X ta tb C (pa X C) (pb X C), fun Ze w σ ρ Q ok rs h => ?_⟩
  rw [hf] at h
  refine run2 sa sb (R2' := fun v u H => r v u H Q) ok rs h fun x y v u w' n r1 r2 h' => ?_
  obtain ⟨o, e, h4⟩ := post.opt n.ok h'
  cases e1 : peek w'.φ x with
  | none => rw [e1] at e; cases e
  | some d =>
    cases e2 : peek w'.φ y with
    | none => rw [e1, e2] at e; cases e
    | some d' =>
      rw [e1, e2] at e
      exact os w'.H (Z Ze w') v u d d' o Q (peek_rep n.ok r1 e1) (peek_rep n.ok r2 e2) e (new_of n.ok h4)
theorem snf_cat (ha : SndE L N sc ca W a (ev G ia)) (hb : SndE L N sc ca W b (ev G ib)) : SndF L N sc ca W (.BinOp a .Add b pos) (evF G (.cat ia ib)) :=
  snf_op2 ha hb os_catA (fun X ta tb C p1 p2 => by rw [← C.eK]; exact pe_op or_add p1 p2) fun ρ φ => by simp only [evF]
theorem snf_rep (ha : SndE L N sc ca W a (ev G ia)) (hb : SndE L N sc ca W b (ev G ib)) : SndF L N sc ca W (.BinOp a .Mult b pos) (evF G (.rep ia ib)) :=
  snf_op2 ha hb os_repA (fun X ta tb C p1 p2 => by rw [← C.eK]; exact pe_op or_mul p1 p2) fun ρ φ => by simp only [evF]
/-! ### built-ins by name -/
theorem peeks_rep {Ze : Addr → Prop} {w : Wd} (ok : Ok L.K L.mg Ze w) : ∀ {vs : List V} {xs : List X1} {ds : List D}, RepXs L.K L.mg Ze w vs xs → peeks w.φ xs = some ds → RepBs L.K L.mg w.H (Z Ze w) vs ds
  | _, _, _, .nil, e => by cases e; exact .nil
  | _, _, _, .cons (x := x) (xs := xs) r t, e => by
    unfold peeks at e
    cases q : peek w.φ x with
    | none => rw [q] at e; cases e
    | some d =>
      rw [q] at e
      cases q2 : peeks w.φ xs with
      | none => rw [q2] at e; cases e
      | some ds => rw [q2] at e; cases e; exact .cons (peek_rep ok r q) (peeks_rep ok t q2)
theorem opn_read {r : List V → Hp → VK → Prop} {g : List D → Option D} (os : CaS L.K L.mg r g) {Ze : Addr → Prop} {w : Wd} {xs : List X1} {vs : List V} {Q : VK} (ok : Ok L.K L.mg Ze w) (rx : RepXs L.K L.mg Ze w vs xs)
    (h : post L.K L.mg Ze W (opn g xs w.φ) w (fun x w' => ∀ v, RepX L.K L.mg Ze w' v x → Q v w'.H)) : r vs w.H Q := by
  unfold opn at h
  cases e1 : peeks w.φ xs with
  | none => rw [e1] at h; exact h.elim
  | some ds =>
    cases e3 : g ds with
    | none => simp only [e1, e3, Option.bind_some] at h; exact h.elim
    | some z =>
      simp only [e1, e3, Option.bind_some, Option.map_some, R.ofOpt_some] at h
      exact os w.H (Z Ze w) vs ds z Q ok.zd (peeks_rep ok rx e1) e3 (aft_of ok h)
/-- is the name x a built-in's here, and nothing else? -/
def bltOk (L : Lw) (x : Str) : Prop := L.mg x = none
def rBi (K : PySem.W.Frag) : Bi → List V → Hp → VK → Prop
  | .len => rLen3 K | .abs => fun xs H Q => ∃ i, xs = [.int i] ∧ Q (.int (if i < 0 then -i else i)) H | .max => rMax2 K | .min => rMin2 K | .int => rInt3 | .str => rStr2
  | .sum => rSum K | .all => rAll K | .any => rAny K | .tuple => rTuple K | .isi => rIsi K | .repr => rRepr K
def Bi.nm : Bi → Str
  | .len => "len" | .abs => "abs" | .max => "max" | .min => "min" | .int => "int" | .str => "str" | .sum => "sum" | .all => "all" | .any => "any" | .tuple => "tuple" | .isi => "isinstance" | .repr => "repr"
theorem cs_bi {K : PySem.W.Frag} {mg : Str → Option Value} : ∀ b : Bi, CaS K mg (rBi K b) (biD b)
  | .len => cs_len | .abs => cs_abs | .max => cs_max | .min => cs_min | .int => cs_int | .str => cs_str | .sum => cs_sum | .all => cs_all | .any => cs_any | .tuple => cs_tuple | .isi => cs_isi
  | .repr => cs_repr
theorem pe_bi {X : Cx} {t : TA} (C : Ctx L N sc ca W X) (b : Bi) (g : globOk sc b.nm = true) (hm : bltOk L b.nm) (ha : PA X (e :: es) t) (hs : (e :: es).all noStar = true) : PE X (.Call (.Name b.nm p) (e :: es) [] pos) (tCB (rBi X.K b) t) := by
  have hg := (gl_of C g).1
  have hm' : X.mg b.nm = none := by rw [C.em]; exact hm
  rw [List.all_cons, Bool.and_eq_true] at hs
  have he : starEach (e :: es) X.env = (false, eval e X.env) :: starEach es X.env := starEach_cons hs.1
  have hp : (backTo pos (starEach es X.env)).any (·.1) = false := backTo_any hs.2
  cases b with
  | len => exact pe_callB cr_len hg hm' (by decide +kernel) ha (by decide) (by decide) he hp
  | abs => exact pe_callB call_abs hg hm' (by decide +kernel) ha (by decide) (by decide) he hp
  | max => exact pe_callB (cr_max' C.calm) hg hm' (by decide +kernel) ha (by decide) (by decide) he hp
  | min => exact pe_callB (cr_min' C.calm (by have := C.units; omega)) hg hm' (by decide +kernel) ha (by decide) (by decide) he hp
  | int => exact pe_callTy cr_int hg hm' (by decide +kernel) ha (by decide) (by decide) he hp
  | str => exact pe_callTy cr_str hg hm' (by decide +kernel) ha (by decide) (by decide) he hp
  | sum => exact pe_callB (cr_sum C.calm) hg hm' (by decide +kernel) ha (by decide) (by decide) he hp
  | all => exact pe_callB (cr_all C.calm) hg hm' (by decide +kernel) ha (by decide) (by decide) he hp
  | any => exact pe_callB (cr_any C.calm) hg hm' (by decide +kernel) ha (by decide) (by decide) he hp
  | tuple => exact pe_callTy call_tupleS hg hm' (by decide +kernel) ha (by decide) (by decide) he hp
  | isi => exact pe_callB call_isi hg hm' (by decide +kernel) ha (by decide) (by decide) he hp
  | repr => exact pe_callB (cr_repr C.gd C.units) hg hm' (by decide +kernel) ha (by decide) (by decide) he hp
theorem snd_bi {b : Bi} (hs : SndA L N sc ca W (e :: es) (evs G ies)) (g : globOk sc b.nm = true) (hm : bltOk L b.nm) (hn : (e :: es).all noStar = true) : SndE L N sc ca W (.Call (.Name b.nm p) (e :: es) [] pos) (ev G (.bi b ies)) := by
  obtain ⟨ts, ps, ss⟩ := hs
  refine ⟨tCB (rBi L.K b) ts, fun X C => by rw [← C.eK]; exact pe_bi C b g hm (ps X C) hn, fun Ze w σ ρ Q ok rs h => ?_⟩
  simp only [ev] at h
  exact ss Ze w σ ρ _ ok rs ((post.bind h).imp fun xs w1 n1 h1 vs r1 => opn_read (cs_bi b) n1.ok r1 h1)
/-! ### list(..), sorted(..) -/
def BiF.nm : BiF → Str
  | .list => "list" | .sorted => "sorted" | .dict => "dict"
def rBiF (K : PySem.W.Frag) : BiF → List V → Hp → VK → Prop
  | .list => fun xs H Q => ∃ p ys, xs = [.ref p] ∧ (SqL K H p ys ∨ SqT K H p ys) ∧ ∀ l, H l = none → Q (.ref l) (upd H l (.lst ys))
  | .sorted => rSortedIT K
  | .dict => fun xs H Q => (∃ (a : Addr) (ps : List Addr) (kvs : List (Key × V)), xs = [.ref a] ∧ (SqL K H a (ps.map V.ref) ∨ SqT K H a (ps.map V.ref)) ∧ Paired (fun p kv => SqT K H p [kV kv.1, kv.2]) ps kvs ∧ ∀ p, H p = none → Q (.ref p) (upd H p (.dK (mergeK [] kvs))))
end
end Ev
/-! Part I0: set(xs) of a list of ints, as HandS has it for tuples. -/
namespace Ev
open PySem PySem.Spec PyProof.Rows L2
section
variable {P : Program} {w : World} {A : Around} {E : Value → Shared → Prop} {s : Shared}
set_option maxRecDepth 100000 in
set_option maxHeartbeats 3200000 in
theorem call_set_lstI {l : Addr} {items : Array Value} (ns : List Int) {Q : Value → Shared → Prop} (hh : A.handled = none) (hl : s.heap.IsList l items) (hit : IntsAre items.toList ns) (hb : ns.length + 1 < scanBound)
    (h : ∀ (h' : Heap) (tk c : Nat), SetR w h' s.heap.objs.size (fun j => decide (j ∈ ns)) c → c ≤ ns.length → (∀ b o, s.heap.get? b = some o → h'.get? b = some o) → Q (.ref s.heap.objs.size) { s with heap := h', toks := tk }) :
    wpAny (model P w) A (call (.type "set") [.ref l]) Q E s := by
  have hisz : items.size = ns.length := by
    have q := IntsAre.length hit
    rw [Array.length_toList] at q
    exact q
  obtain ⟨c, tl, hmro⟩ := F.called_set.mro
  have hmade := F.called_set.made
  have hsub := F.called_set.sub
  refine wpAny_call (codeAny_of_tree ?_)
  show wpAny _ _ (callAny (.type "set") _) _ _ _
  refine wpAny_pure ⟨Code.quiet_builtin _ (by decide +kernel), codeAny_builtin F.entry_type_call ?_⟩
  rw [Around.under_plain (weight_type_call_type "set" [.ref l] []) rfl]
  have h1 := F.called_set.notType
  have h2 := F.called_set.canCreate
  have hct := F.typeCall_set_1 (.ref l)
  repeat (any_goals (first | assumption | wp_step))

  refine codeAny_mono (code_set_led1 (.ref l) (E := E) (Q₁ := fun obj s₁ => obj = .ref s.heap.objs.size ∧ s₁ = { s with heap := s.heap.push { cls := .type "set", dict := none, data := .set #[] 0 (.fresh 0 0 (!w.params.followText "set-order")) } }) ⟨rfl, rfl⟩) fun r s₁ hr => ?_
  cases r with
  | error e => exact hr
  | ok fl =>
    cases fl with
    | ret obj =>
      obtain ⟨rfl, rfl⟩ := hr
      have hS : (s.heap.push { cls := .type "set", dict := none, data := .set #[] 0 (.fresh 0 0 (!w.params.followText "set-order")) }).get? s.heap.objs.size = some { cls := .type "set", dict := none, data := .set #[] 0 (.fresh 0 0 (!w.params.followText "set-order")) } := Heap.get?_push_size _ rfl
      have hT : Shared.TypeIs { s with heap := s.heap.push { cls := .type "set", dict := none, data := .set #[] 0 (.fresh 0 0 (!w.params.followText "set-order")) } } (.ref s.heap.objs.size) "set" := ⟨_, hS, rfl⟩
      have hli := F.called_set.init.lookup
      have hbi := F.called_set.init.bind (.ref s.heap.objs.size)
      repeat (any_goals (first | assumption | wp_step))

      refine codeAny_mono (codeAny_call_builtin (R := wants (fun r s₂ => r = .none ∧ ∃ h' tk c, s₂ = { s with heap := h', toks := tk } ∧ SetR w h' s.heap.objs.size (fun j => decide (j ∈ ns)) c ∧ c ≤ ns.length ∧
          (∀ b o, s.heap.get? b = some o → h'.get? b = some o)) E) F.called_set.init.plain F.entry_set_init (check_set_init_1 hT ?_)) fun r₂ s₂ hr₂ => ?_
      · obtain ⟨ol, hol, hcl, nl, hdl⟩ := hl
        obtain ⟨ocls, odict, odata, oslots⟩ := ol
        simp only at hcl hdl
        subst hcl; subst hdl
        have hol' : (s.heap.push { cls := .type "set", dict := none, data := .set #[] 0 (.fresh 0 0 (!w.params.followText "set-order")) }).get? l = some { cls := .type "list", dict := odict, data := .seq items nl, slots := oslots } := Heap.get?_push_of_some _ hol
        have hsls := F.sub_list_set
        have hslf := F.sub_list_frozenset
        have hne : (Value.type "list" == Value.type "dict") = false := by decide
        have hl1 : (s.heap.push { cls := .type "set", dict := none, data := .set #[] 0 (.fresh 0 0 (!w.params.followText "set-order")) }).IsList l items := ⟨_, hol', rfl, nl, rfl⟩
        unfold Builtin.«set.__init__» noKeywords Builtin.Frozenset.updateFrom
        generalize hPI : pyIter = PI
        wp_walk
        subst hPI

        refine wpAny_pyIter_list hl1 ?_
        refine wpAny_bind (wpAny_runValue ?_)
        have hlS : l < s.heap.objs.size := Heap.lt_size hol
        have hh3 : A.in1.in1.in1.handled = none := by simp [hh]
        have hz1 : (s.heap.push { cls := .type "set", dict := none, data := .set #[] 0 (.fresh 0 0 (!w.params.followText "set-order")) }).objs.size = s.heap.objs.size + 1 := Heap.size_push ..
        have hneI : l ≠ (s.heap.push { cls := .type "set", dict := none, data := .set #[] 0 (.fresh 0 0 (!w.params.followText "set-order")) }).objs.size := by
          rw [Heap.size_push]; exact Nat.ne_of_lt (Nat.lt_succ_of_lt hlS)
        have hSf : s.heap.objs.size ∉ [(s.heap.push { cls := .type "set", dict := none, data := .set #[] 0 (.fresh 0 0 (!w.params.followText "set-order")) }).objs.size, l] := by
          rw [Heap.size_push]; simp only [List.mem_cons, List.mem_singleton, List.not_mem_nil, or_false, not_or]
          exact ⟨Nat.ne_of_lt (Nat.lt_succ_self _), Nat.ne_of_gt hlS⟩
        have hval : ∀ (i : Nat) (v : Value), items[i]? = some v → ∃ k t, ns[i]? = some k ∧ v = .int k t := fun i v hv => by
          have hi : i < ns.length := by rw [← hisz]; exact (Array.getElem?_eq_some_iff.mp hv).1
          obtain ⟨t, e⟩ := PyProof.Rows.IntsAre.int_at hit i v (by rw [Array.getElem?_toList]; exact hv)
          refine ⟨ns[i], t, List.getElem?_eq_getElem hi, ?_⟩
          rw [e, List.getD_eq_getElem?_getD, List.getElem?_eq_getElem hi] <;> rfl
        refine set_update_ints ((Walks.list hh3 _ l hneI items).toS) s.heap.objs.size
          hSf ns hisz hb hval (items.size - 0) 0 _ (by omega) (Nat.zero_le _)
          ⟨⟨_, Heap.get?_push_size _ rfl, rfl, rfl⟩, (hl1.push _)⟩ ?hS0 ?hR
        case hS0 =>
          have hget : ((s.heap.push { cls := .type "set", dict := none, data := .set #[] 0 (.fresh 0 0 (!w.params.followText "set-order")) }).push { cls := .type "list_iterator", data := .fields #[.ref l, .int 0 0] }).get? s.heap.objs.size
              = some { cls := .type "set", dict := none, data := .set #[] 0 (.fresh 0 0 (!w.params.followText "set-order")) } := Heap.get?_push_of_some _ hS
          exact ⟨0, Nat.le_refl 0, setR_new_at hget⟩
        case hR =>
          intro s' c' hm hc' hS'
          obtain ⟨h', g2, d', tk', os'⟩ := s'
          have eg : g2 = s.gens := hm.gens
          have ed : d' = s.drawn := hm.drawn
          have eo : os' = s.os := hm.os
          subst eg; subst ed; subst eo
          show wpAny _ _ _ _ _ _
          refine wpAny_pure ?_
          show wpAny _ _ (ret Value.none) _ _ _
          rw [hisz] at hc'
          refine wpAny_pure ⟨rfl, h', tk', c', rfl, hS', hc', fun b o e => ?_⟩
          have hb0 : b < s.heap.objs.size := Heap.lt_size e
          have hb1 : b ≠ s.heap.objs.size := Nat.ne_of_lt hb0
          have hb2 : b ≠ (s.heap.push { cls := .type "set", dict := none, data := .set #[] 0 (.fresh 0 0 (!w.params.followText "set-order")) }).objs.size := by
            rw [Heap.size_push]; exact Nat.ne_of_lt (Nat.lt_succ_of_lt hb0)
          exact hm.heap b o (by simp only [List.mem_cons, List.mem_singleton, List.not_mem_nil, or_false, not_or]; exact ⟨hb1, hb2⟩) (Heap.get?_push_of_some _ (Heap.get?_push_of_some _ e))

      · cases r₂ with
        | error e => exact hr₂
        | ok fl₂ =>
          cases fl₂ with
          | ret r =>
            obtain ⟨rfl, h', tk, c', rfl, hS', hc', hk'⟩ := hr₂
            repeat (any_goals (first | assumption | wp_step))
            exact h _ _ _ hS' hc' hk'
          | _ => exact hr₂.elim
    | _ => exact hr.elim

end
end Ev
/-! Part I: reversing slices, dicts, list(..), sorted(..), dict(..). -/
namespace Ev
open PySem PySem.Spec PyProof.Rows L2
open HT in
section
variable {prog : Program} {w : World} {A : Around} {E : Value → Shared → Prop} {s : Shared}
theorem filterMap_rev (xs : Array Value) : ((List.range xs.size).filterMap fun (m : Nat) => xs[(((xs.size : Int) - 1) + (m : Int) * (-1)).toNat]?).toArray = xs.toList.reverse.toArray := by
  have e : (fun (m : Nat) => xs[(((xs.size : Int) - 1) + (m : Int) * (-1)).toNat]?) = fun (m : Nat) => xs[((xs.size : Int) - 1 - (m : Int)).toNat]? := by
    funext m
    congr 2
    omega
  rw [e]
  have h1 : (List.range xs.size).filterMap (fun (m : Nat) => xs[((xs.size : Int) - 1 - (m : Int)).toNat]?) = ((List.range xs.size).map fun k => xs.size - 1 - k).filterMap (xs[·]?) := by
    rw [List.filterMap_map]
    congr 1
    funext m
    show _ = xs[xs.size - 1 - m]?
    congr 1
    omega
  rw [h1, PySem.W.krv_range, List.filterMap_reverse, PySem.W.krv_all]
theorem applied_rev {sl : Addr} {vs : Value} {n : Nat} {Q : Int × Int × Nat → Shared → Prop} (hs : s.heap.IsSliceOf sl .none .none vs) (ps : IsPart vs (some (-1)))
    (hq : Q ((n : Int) - 1, -1, n) s) : wpAny (model prog w) A (Builtin.Slice.sliceApplied (.ref sl) (pure (n : Int))) Q E s := by
  obtain ⟨os, hos, hcs, hds⟩ := id hs
  unfold Builtin.Slice.sliceApplied Builtin.Slice.sliceFields
  refine wpAny_bind (wpAny_bind (wpAny_field hos hds (x := .none) rfl (wpAny_bind (wpAny_field hos hds (x := .none) rfl (wpAny_bind (wpAny_field hos hds (x := vs) rfl (wpAny_pure ?_)))))))
  refine wpAny_bind (slicePart_ ps ?_)
  show wpAny _ _ (if ((-1 : Int) == 0) = true then _ else _) _ _ s
  rw [if_neg (by decide)]
  refine wpAny_bind (slicePart_none (wpAny_bind (slicePart_none (wpAny_bind (wpAny_pure ?_)))))
  have e1 : Builtin.Slice.sliceAdjust none none (-1) (n : Int) = ((n : Int) - 1, -1) := rfl
  show wpAny _ _ (match Builtin.Slice.sliceAdjust none none (-1) (n : Int) with | (lo, hi) => pure (lo, (-1 : Int), Builtin.Slice.slicePlaces lo hi (-1))) _ _ s
  rw [e1]
  have e2 : Builtin.Slice.slicePlaces ((n : Int) - 1) (-1) (-1) = n := by
    unfold Builtin.Slice.slicePlaces
    rw [if_neg (by decide)]
    have e3 : (- -1 : Int) = 1 := by decide
    rw [e3, Int.ediv_one]
    split <;> omega
  show wpAny _ _ (pure ((n : Int) - 1, (-1 : Int), Builtin.Slice.slicePlaces ((n : Int) - 1) (-1) (-1))) _ _ s
  rw [e2]
  exact wpAny_pure hq
theorem getItem_tuple_rev {t sl : Addr} {items : Array Value} {vs : Value} {Q : Value → Shared → Prop} (ht : IsTup s.heap t items) (hs : s.heap.IsSliceOf sl .none .none vs) (ps : IsPart vs (some (-1)))
    (h : Q (.ref s.heap.objs.size) { s with heap := s.heap.push { cls := .type "tuple", data := .seq items.toList.reverse.toArray } })
    (hsz : items.size ≤ sizeLine) : wpAny (model prog w) A (getItem (.ref t) (.ref sl)) Q E s := by
  have htake : sizeOk (.seq items.toList.reverse.toArray) := by
    show items.toList.reverse.toArray.size ≤ sizeLine
    rw [List.size_toArray, List.length_reverse, Array.length_toList]
    exact hsz
  obtain ⟨os, hos, hcs, hds⟩ := id hs
  have hTs : s.TypeIs (.ref sl) "slice" := ⟨os, hos, hcs⟩
  unfold getItem
  try with_reducible refine wpAny_holding ?_
  first | refine wpAny_bind (wpAny_pure ?_) | skip
  refine wpAny_bind (wpAny_sequenceKey ht.typeIs (by decide) ?_)
  refine wpAny_bind (wpAny_callSpecial?_slot (name := Str.ofString "__getitem__") ht.typeIs PyProof.Rows.slot_tuple_getitem
    (wpAny_call_entry PyProof.Rows.slot_tuple_getitem ht.typeIs entry_tuple_getitem ?_ (args_tuple_getitem _ _)))
  show wpAny _ _ (Builtin.Tuple.tupleItemsOf (.ref t) >>= _) _ _ s
  refine wpAny_bind (tupleItemsOf_ ht ?_)
  refine wpAny_bind (wpAny_typeOf hTs ?_)
  rw [if_pos (by decide)]
  refine wpAny_bind (applied_rev hs ps ?_)
  have hno : ¬ ((((items.size : Int) - 1) == 0 && (-1 : Int) == 1 && items.size == items.size) = true) := by
    intro q
    rw [Bool.and_eq_true, Bool.and_eq_true] at q
    exact absurd q.1.2 (by decide)
  show wpAny _ _ (if (((items.size : Int) - 1) == 0 && (-1 : Int) == 1 && items.size == items.size) = true then _ else _) _ _ s
  rw [if_neg hno, filterMap_rev]
  first
    | exact wpAny_bind (m := Builtin.Tuple.tupleExact _) (wpAny_newObj_type (wpAny_pure ⟨_, rfl, wpAny_pure h⟩) htake)
    | exact wpAny_bind (m := Builtin.Tuple.tupleExact _) (wpAny_newObj_type (wpAny_bind (wpAny_pure (wpAny_pure ⟨_, rfl, wpAny_pure h⟩))) htake)
    | exact wpAny_bind (wpAny_bind (m := Builtin.Tuple.tupleExact _) (wpAny_newObj_type (wpAny_pure (wpAny_pure ⟨_, rfl, wpAny_pure h⟩)) htake))
    | exact wpAny_bind (wpAny_bind (m := Builtin.Tuple.tupleExact _) (wpAny_newObj_type (wpAny_pure ⟨_, rfl, wpAny_pure h⟩) htake))
end
section
variable {X : Cx}
def tRev (K : PySem.W.Frag) (te : TE) : TE := fun σ H Q => te σ H fun x H1 => rRev K x H1 Q
theorem pe_rev {e : Expr} {te : TE} {k : Nat} {p1 p2 p3 pos : Pos} (he : PE X e te) : PE X (.Subscript e (.Slice none none (some (.UnaryOp .USub (.Constant (.int 1) k p1) p2)) p3) pos) (tRev X.K te) := by
  refine ⟨fun pins s σ H Q I h => ?_⟩
  refine Subscript_ (thn (he.run pins s σ H _ I h) fun v s1 ⟨x, H1, I1, r1, q1⟩ => ?_)
  have hst : PO X (some (.UnaryOp .USub (.Constant (.int 1) k p1) p2)) (tPart (tUn (rU fun i => .int (-i)) (tC (.int 1)))) := po_some (pe_un un_neg pe_int)
  refine wpAny_Slice (thn (po_none.run pins s1 σ H1 (fun o H2 => o = none ∧ H2 = H1) I1 ⟨rfl, rfl⟩) fun vl s2 ⟨l, H2, I2, pl, el, e2⟩ => ?_)
  subst el e2
  refine thn (po_none.run pins s2 σ H2 (fun o H3 => o = none ∧ H3 = H2) I2 ⟨rfl, rfl⟩) fun vu s3 ⟨u, H3, I3, pu, eu, e3⟩ => ?_
  subst eu e3
  refine thn (hst.run pins s3 σ H3 (fun o H4 => o = some (-1) ∧ H4 = H3) I3 ⟨1, rfl, -1, rfl, rfl, rfl⟩) fun vs s4 ⟨o, H4, I4, ps, eo, e4⟩ => ?_
  subst eo e4
  have I5 : Inv X pins σ H4 { s4 with heap := s4.heap.push { cls := .type "slice", data := .fields #[vl, vu, vs] } } := I4.kept (t' := s4.toks) fun b ob q => Heap.get?_push_of_some _ q
  rcases q1 with ⟨a, xs, ex, hx, q⟩ | ⟨a, xs, ex, hx, q⟩
  · subst ex
    cases r1
    obtain ⟨its, r, ht, hz⟩ := I5.list hx
    have hlen := r.length
    show wpAny (model X.prog X.w) X.A (subscriptTail e (.Slice none none (some (.UnaryOp .USub (.Constant (.int 1) k p1) p2)) p3) (.ref a) (.ref s4.heap.objs.size)) (EP X pins σ Q) X.xe { s4 with heap := s4.heap.push { cls := .type "slice", data := .fields #[vl, vu, vs] } }
    refine tail_any (ops := [.ref a, .ref s4.heap.objs.size]) ht.isList.typeIs (PySem.slot_list_getitem.lookup) ?_ (by with_unfolding_all rfl)
    refine wpAny_getItem_list_slice ht.isList (Heap.IsSliceOf.new _ vl vu vs) pl pu ps (by decide) ?_ (by rw [List.size_toArray]; omega)
    rw [PySem.W.krv_pick]
    refine ⟨.ref _, _, I5.laid (t' := s4.toks) (o := .lst xs.reverse) (fun b ob q => Heap.get?_push_of_some _ q) (Nat.le_refl _) ?_, rfl, q _ (I5.hok.fresh (Nat.le_refl _))⟩
    exact ⟨by rw [List.length_reverse]; exact hz, _, 0, r.reverse, Heap.get?_push_size _ rfl⟩
  · subst ex
    cases r1
    obtain ⟨its, r, ht, hz⟩ := I5.tuple hx
    have hlen := r.length
    show wpAny (model X.prog X.w) X.A (subscriptTail e (.Slice none none (some (.UnaryOp .USub (.Constant (.int 1) k p1) p2)) p3) (.ref a) (.ref s4.heap.objs.size)) (EP X pins σ Q) X.xe { s4 with heap := s4.heap.push { cls := .type "slice", data := .fields #[vl, vu, vs] } }
    refine tail_any (ops := [.ref a, .ref s4.heap.objs.size]) ht.typeIs (PyProof.Rows.slot_tuple_getitem.lookup) ?_ (by with_unfolding_all rfl)
    cases pl
    cases pu
    refine getItem_tuple_rev ht (Heap.IsSliceOf.new _ .none .none vs) ps ?_ (by rw [List.size_toArray]; omega)
    exact newT (s := { s4 with heap := s4.heap.push { cls := .type "slice", data := .fields #[.none, .none, vs] } }) s4.toks I5 r.reverse (by rw [List.length_reverse]; exact hz) q
end
section
variable {X : Cx}
/-- set(xs) of a list of ints -/
def rSetOf (K : PySem.W.Frag) (w : World) : List V → Hp → VK → Prop := fun xs H Q => ∃ p, ∃ ns : List Int, xs = [.ref p] ∧ SqL K H p (ns.map V.int) ∧ ns.length < 1000 ∧ ∀ l n, H l = none → (∀ ms : List Int, ms.Nodup → (∀ k, k ∈ ms ↔ k ∈ ns) → ms.length = n) → Q (.ref l) (upd H l (SetO w l (fun j => decide (j ∈ ns)) n))
theorem cr_setL (hc : X.calm = true) : CallR X (.type "set") (rSetOf X.K X.w) := by
  intro pins s σ H xs us Q I r h
  obtain ⟨p, ns, rfl, hq, hl, q⟩ := h
  obtain ⟨u, rfl, rx⟩ := vals1 r
  cases rx
  obtain ⟨its, rv, pl, hz⟩ := I.list hq
  have hi : IntsAre its.toArray.toList ns := ints_of_vals rv
  refine call_set_lstI ns (I.ok.hd hc) pl.isList hi (by unfold scanBound; omega) fun h' tk c R1 hcn k => ?_
  refine ⟨.ref s.heap.objs.size, _, I.laid (t' := tk) k (Nat.le_refl _) (setO_new R1), rfl, q _ _ (I.hok.fresh (Nat.le_refl _)) fun ms hms hmm => ?_⟩
  obtain ⟨o, es, ep, t, ho, hex, hd, g, nd, hm, hb, hf, hn, _⟩ := R1
  have pm : ms.Perm (es.toList.map keyOf) := (List.perm_ext_iff_of_nodup hms nd).mpr fun k => by rw [hmm, ← hm k, decide_eq_true_eq]
  rw [pm.length_eq, List.length_map, Array.length_toList]; exact hn
theorem pairs_of2 {pins : List (Addr × Obj)} {σ : SS} {H : Hp} {s : Shared} (I : Inv X pins σ H s) : ∀ {ps : List Addr} {kvs : List (Key × V)}, Paired (fun p kv => SqT X.K H p [kV kv.1, kv.2]) ps kvs →
    ∃ (prs : List (Key × Value)) (prv : List (Value × Value)), KV kvs prs ∧ prs.length = ps.length ∧ prv.length = ps.length ∧ ∀ (j : Nat) (k v : Value), prv[j]? = some (k, v) → ∃ (b : Addr) (q : Key), ps[j]? = some b ∧ prs[j]? = some (q, v) ∧ IsTup s.heap b #[k, v] ∧ keyIs q k = true
  | _, _, .nil => ⟨[], [], .nil, rfl, rfl, fun j k v e => by simp at e⟩
  | _, _, .cons (a := p) (b := kv) h t => by
    obtain ⟨prs, prv, r, hl, hl2, hp⟩ := pairs_of2 I t
    obtain ⟨its, rv, ht, _⟩ := I.tuple h
    obtain ⟨u, y, ei, ru, ry⟩ := vals2 rv
    subst ei
    refine ⟨(kv.1, y) :: prs, (u, y) :: prv, .cons ⟨rfl, ry⟩ r, by rw [List.length_cons, List.length_cons, hl], by rw [List.length_cons, List.length_cons, hl2], fun j k v e => ?_⟩
    cases j with
    | zero =>
      simp only [List.getElem?_cons_zero, Option.some.injEq, Prod.mk.injEq] at e
      obtain ⟨rfl, rfl⟩ := e
      exact ⟨p, kv.1, rfl, rfl, ht, kV_is (P := X.prog) (w := X.w) ru⟩
    | succ j =>
      obtain ⟨b, q, e1, e2, e3, e4⟩ := hp j k v (by simpa using e)
      exact ⟨b, q, by simpa using e1, by simpa using e2, e3, e4⟩
/-- dict(xs) of pairs -/
theorem cr_dictP (hcalm : X.calm = true) : CallR X (.type "dict") (rDictP X.K) := by
  intro pins s σ H xs us Q I r q
  obtain ⟨a, vs, ps, kvs, ex, hq, ev, hp, q⟩ := q
  subst ex ev
  rcases hq with hq | hq
  · exact call_dictP hcalm pins s σ H _ us Q I r ⟨a, ps, kvs, rfl, hq, hp, q⟩
  obtain ⟨u, eu, rx⟩ := vals1 r
  subst eu
  cases rx
  obtain ⟨its, rv, ⟨ob, hob, hc, hd, n, hdat⟩, hz⟩ : ∃ its : List Value, Vals (ps.map V.ref) its ∧ (∃ o, s.heap.get? a = some o ∧ o.cls = .type "tuple" ∧ o.dict = none ∧ ∃ n, o.data = .seq its.toArray n) ∧ (ps.map V.ref).length ≤ sizeLine := by
    rcases hq with ⟨o, h, hc, hd⟩ | ⟨o, its, n, hk, hc, hd, hs, hz, r⟩
    · obtain ⟨e, z, its, rv, ⟨o', e', _, n, hdat⟩⟩ := I.hok a _ h
      rw [e] at e'; cases e'
      exact ⟨its, rv, ⟨o, e, hc, hd, n, hdat⟩, z⟩
    · refine ⟨its.toList, r, ⟨o, I.kIn a o hk, hc, hd, n, by simpa using hs⟩, ?_⟩
      have e := r.length
      simp only [Array.length_toList] at e
      omega
  have ei := refs_at rv
  subst ei
  rw [List.length_map] at hz
  obtain ⟨prs, prv, rel, hl, hl2, hpr⟩ := pairs_of2 I hp
  refine PySem.call_dict_pairs (knd := mixKind X.prog X.w) (kvs := prs) (PairArg.tuple a (ps.map Value.ref).toArray (fun j => (ps[j]?).getD 0) prv) (I.ok.hd hcalm)
    ⟨⟨ob, n, hob, hc, hd, hdat⟩, by simp [hl2], fun j k v e => ?_⟩ ⟨by rw [hl, hl2], fun j k v e => ?_⟩ (by rw [hl2]; exact hz) fun h' tk hd' kk => ?_
  · obtain ⟨b, q', e1, e2, e3, e4⟩ := hpr j k v e
    refine ⟨by simp [e1], .inl ?_⟩
    show s.heap.IsTuple ((ps[j]?).getD 0) #[k, v]
    rw [e1]
    exact e3
  · obtain ⟨b, q', e1, e2, e3, e4⟩ := hpr j k v e
    exact ⟨q', e2, e4⟩
  · have hm : (s.heap.objs.size == sysModules) = false := beq_eq_false_iff_ne.mpr (Nat.ne_of_gt I.big)
    have hlen : (mergeK [] kvs).length ≤ sizeLine := by
      refine Nat.le_trans (length_mergeK kvs []) ?_
      rw [List.length_nil, Nat.zero_add, rel.length, hl]
      exact hz
    have k : ∀ b o, s.heap.get? b = some o → h'.get? b = some o := fun b o e => kk b o (by simp) e
    exact ⟨.ref s.heap.objs.size, upd H s.heap.objs.size (.dK (mergeK [] kvs)), I.laid (t' := tk) k (Nat.le_refl _) (show ObjOk X.prog X.w _ _ _ (.dK (mergeK [] kvs)) from ⟨hlen, hm, merged [] prs, KV.merge rel .nil, hd'⟩), rfl, q _ (I.hok.fresh (Nat.le_refl _))⟩
end
end Ev
/-! Part J: rules for a[::-1], d.get, list(..), sorted(..), dict(..), list(range(..)), sorted(set(..)). -/
namespace Ev
open PySem PySem.Spec PyProof.Rows L2
section
variable {L : Lw} {N : List Str} {sc : Scope} {ca : Str → Bool} {W : XK} {a b c e i z : Expr} {es : List Expr} {pos p p1 p2 p3 : Pos} {G : List FSem} {ia ib ic ie ii iz : IE} {ies : List IE}
theorem snd_rev {k : Nat} (ha : SndE L N sc ca W a (ev G ia)) : SndE L N sc ca W (.Subscript a (.Slice none none (some (.UnaryOp .USub (.Constant (.int 1) k p1) p2)) p3) pos) (ev G (.rev ia)) := by
  obtain ⟨ta, pa, sa⟩ := ha
  refine ⟨tRev L.K ta, fun X C => by rw [← C.eK]; exact pe_rev (pa X C), fun Ze w σ ρ Q ok rs h => ?_⟩
  simp only [ev] at h
  exact sa Ze w σ ρ _ ok rs ((post.bind h).imp fun x w1 n1 h1 v r1 => op1_read us_rev n1.ok r1 h1)
theorem m2_of {X : Cx} {o e f : Expr} {m : Str} {apos cpos : Pos} (ho : noCall0 o = true) (he : noStar e = true) (hf : noStar f = true) (hl : (apos.endLine == cpos.line) = true) : M2 X o m apos e f cpos := by
  have h1 : starEach [e, f] X.env = [(false, eval e X.env), (false, eval f X.env)] := by rw [starEach_cons he, starEach_cons hf]; rfl
  exact ⟨attrBase ho, by rw [h1]; rfl, hl, by rw [h1]; rfl⟩
theorem snd_dg2 {apos cpos : Pos} (ha : SndE L N sc ca W a (ev G ia)) (hi : SndE L N sc ca W i (ev G ii)) (hz : SndE L N sc ca W z (ev G iz)) (h1 : noCall0 a = true) (h2 : noStar i = true) (h3 : noStar z = true) (h4 : (apos.endLine == cpos.line) = true) :
    SndE L N sc ca W (.Call (.Attribute a "get" apos) [i, z] [] cpos) (ev G (.dg2 ia ii iz)) := by
  obtain ⟨ta, pa, sa⟩ := ha
  obtain ⟨ti, pi, si⟩ := hi
  obtain ⟨tz, pz, sz⟩ := hz
  refine ⟨tDGet2 ta ti tz, fun X C => pe_dget2 (by have := C.units; omega) (pa X C) (pi X C) (pz X C) (m2_of h1 h2 h3 h4), fun Ze w σ ρ Q ok rs h => ?_⟩
  simp only [ev] at h
  refine sa Ze w σ ρ _ ok rs ((post.bind h).imp fun x w1 n1 h1 v r1 => ?_)
  cases e1 : peek w1.φ x with
  | none => rw [e1] at h1; exact h1.elim
  | some d =>
    rw [e1] at h1
    have rb := peek_rep n1.ok r1 e1
    cases d with
    | dct ks ds =>
      obtain ⟨p, kvs, rfl, hp, _, _⟩ := rb.dctI
      refine ⟨p, rfl, .inl ⟨kvs, .inl hp⟩, ?_⟩
      have rs1 := rs.nx ok n1.st
      refine si Ze w1 σ ρ _ n1.ok rs1 ((post.bind h1).imp fun y w2 n2 h2 u r2 => ?_)
      refine sz Ze w2 σ ρ _ n2.ok (rs1.nx n1.ok n2.st) ((post.bind h2).imp fun t w3 n3 h3 q r3 => ?_)
      obtain ⟨f, w4, n4, e4, r4, h4⟩ := frzX_post n3.ok r3 (post.bind h3)
      have rx := ((r1.nx n1.ok n2.st).nx n2.ok n3.st).nx n3.ok n4.st
      have ry := (r2.nx n2.ok n3.st).nx n3.ok n4.st
      rw [← e4]
      unfold op2 at h4
      cases q1 : peek w4.φ x with
      | none => rw [q1] at h4; exact h4.elim
      | some d4 =>
        cases q2 : peek w4.φ y with
        | none => rw [q1, q2] at h4; exact h4.elim
        | some dk =>
          simp only [q1, q2, Option.bind_some] at h4
          unfold dget2D at h4
          cases d4 with
          | dct ks4 ds4 =>
            cases hk : dk.key with
            | none => simp only [hk, Option.map_none] at h4; exact h4.elim
            | some k =>
              simp only [hk, Option.map_some, R.ofOpt_some] at h4
              obtain ⟨a', kvs4, e5, hp4, g, g1, g2⟩ := dget_rep (peek_rep n4.ok rx q1) (peek_rep n4.ok ry q2) hk
              cases e5
              refine ⟨_, g, ?_⟩
              refine post.here n4.ok h4 _ ?_
              cases q5 : valD ks4 ds4 k with
              | none => rw [g2 q5]; exact r4
              | some d5 => obtain ⟨v5, e6, r6⟩ := g1 d5 q5; rw [e6]; exact r6
          | _ => exact h4.elim
    | _ => exact h1.elim
/-! ### list(..), sorted(..), dict(..) -/
theorem sna_one (ha : SndE L N sc ca W e (ev G ie)) (h : noStar e = true) : SndA L N sc ca W [e] (evs G [ie]) := sna_cons ha sna_nil h
def rBF (K : PySem.W.Frag) : BiF → List V → Hp → VK → Prop
  | .list => fun xs H Q => ∃ p ys, xs = [.ref p] ∧ (SqL K H p ys ∨ SqT K H p ys) ∧ ∀ l, H l = none → Q (.ref l) (upd H l (.lst ys))
  | .sorted => rSortedIT K
  | .dict => rDictP K
def biF1 : BiF → List D → Option O
  | .list => listF | .sorted => sortedF | .dict => dictF
theorem cs_bf {K : PySem.W.Frag} {mg : Str → Option Value} : ∀ b : BiF, CaSF K mg (rBF K b) (biF1 b)
  | .list => cs_list | .sorted => cs_sorted | .dict => cs_dict
theorem pe_bf {X : Cx} {t : TA} (C : Ctx L N sc ca W X) (b : BiF) (g : globOk sc b.nm = true) (hm : bltOk L b.nm) (ha : PA X [e] t) (hs : noStar e = true) : PE X (.Call (.Name b.nm p) [e] [] pos) (tCB (rBF X.K b) t) := by
  have hg := (gl_of C g).1
  have hm' : X.mg b.nm = none := by rw [C.em]; exact hm
  have he : starEach [e] X.env = (false, eval e X.env) :: starEach [] X.env := starEach_cons hs
  cases b with
  | list => exact pe_callTy call_list_of hg hm' (by decide +kernel) ha (by decide) (by decide) he rfl
  | sorted => exact pe_callB cr_sortedIT hg hm' (by decide +kernel) ha (by decide) (by decide) he rfl
  | dict => exact pe_callTy (cr_dictP C.calm) hg hm' (by decide +kernel) ha (by decide) (by decide) he rfl
theorem snf_bi {b : BiF} (ha : SndE L N sc ca W e (ev G ie)) (g : globOk sc b.nm = true) (hm : bltOk L b.nm) (hn : noStar e = true) : SndF L N sc ca W (.Call (.Name b.nm p) [e] [] pos) (evF G (.bi b ie)) := by
  obtain ⟨ta, pa, sa⟩ := ha
  refine ⟨tCB (rBF L.K b) (tCons ta tNil), fun X C => by rw [← C.eK]; exact pe_bf C b g hm (pa_cons (pa X C) pa_nil (starEach_cons hn)) hn, fun Ze w σ ρ Q ok rs h => ?_⟩
  simp only [evF] at h
  refine sa Ze w σ ρ _ ok rs ((post.bind h).imp fun x w1 n1 h1 v r1 => ?_)
  obtain ⟨o, e1, h2⟩ := post.opt n1.ok h1
  cases q : peek w1.φ x with
  | none => rw [q] at e1; cases e1
  | some d =>
    rw [q] at e1
    have e2 : biF1 b [d] = some o := by cases b <;> exact e1
    exact cs_bf b w1.H (Z Ze w1) [v] [d] o Q (.cons (peek_rep n1.ok r1 q) .nil) e2 (new_of n1.ok h2)
/-! ### list(range(..)) -/
theorem reps_rng {K : PySem.W.Frag} {mg : Str → Option Value} {H : Hp} {Zp : Addr → Prop} (i j : Int) : Reps K mg H Zp (rgV i j) (rngL i j) := by
  unfold rgV rngL
  generalize List.range (j - i).toNat = l
  induction l with
  | nil => exact .nil
  | cons n l ih => exact .cons (.int _) ih
theorem rng_end {Ze : Addr → Prop} {w : Wd} {Q : VK} {i j : Int} (ok : Ok L.K L.mg Ze w) (h : post L.K L.mg Ze W (if inRng i && inRng j && decide ((j - i).toNat ≤ 2 ^ 24) then R.ok (O.lst (rngL i j)) w.φ else .bad) w (fun o w' => NewAt L Ze w' o w' Q)) :
    RgOk i j ∧ ∀ q, w.H q = none → Q (.ref q) (upd w.H q (.lst (rgV i j))) := by
  split at h
  · rename_i hc
    unfold inRng at hc
    simp only [Bool.and_eq_true, decide_eq_true_eq] at hc
    refine ⟨⟨hc.1.1.1, hc.1.1.2, hc.1.2.1, hc.1.2.2, hc.2⟩, fun q n => ?_⟩
    exact new_of (L := L) ok (post.here ok h) q _ n ⟨rgV i j, rfl, reps_rng i j⟩
  · exact h.elim
theorem snf_rng2 (ha : SndE L N sc ca W a (ev G ia)) (hb : SndE L N sc ca W b (ev G ib)) (g : globOk sc "list" = true) (hm : bltOk L "list") (g2 : globOk sc "range" = true) (hm2 : bltOk L "range") (h1 : noStar a = true) (h2 : noStar b = true) :
    SndF L N sc ca W (.Call (.Name "list" p) [.Call (.Name "range" p2) [a, b] [] p3] [] pos) (evF G (.rng ia ib)) := by
  obtain ⟨ta, pa, sa⟩ := ha
  obtain ⟨tb, pb, sb⟩ := hb
  refine ⟨tLstRg (tRg2 ta tb), fun X C => ?_, fun Ze w σ ρ Q ok rs h => ?_⟩
  · have m1 : X.mg "list" = none := by rw [C.em]; exact hm
    have m2 : X.mg "range" = none := by rw [C.em]; exact hm2
    exact pe_listRg C.calm (gl_of C g).1 m1 (prg_2 (gl_of C g2).1 m2 (pa X C) (pb X C) (starEach_cons h1) (starEach_cons h2) (by rw [starEach_cons h2]; rfl)) (starEach_cons rfl)
  · simp only [evF] at h
    refine run2 sa sb (R2' := fun v u H => ∃ i j, v = .int i ∧ u = .int j ∧ RgOk i j ∧ ∀ q, H q = none → Q (.ref q) (upd H q (.lst (rgV i j)))) ok rs h fun x y v u w' n r1 r2 h' => ?_
    split at h'
    · cases r1
      cases r2
      exact ⟨_, _, rfl, rfl, rng_end n.ok h'⟩
    · exact h'.elim
theorem snf_rng1 (hb : SndE L N sc ca W b (ev G ib)) (g : globOk sc "list" = true) (hm : bltOk L "list") (g2 : globOk sc "range" = true) (hm2 : bltOk L "range") (h2 : noStar b = true) :
    SndF L N sc ca W (.Call (.Name "list" p) [.Call (.Name "range" p2) [b] [] p3] [] pos) (evF G (.rng (.con (.int 0)) ib)) := by
  obtain ⟨tb, pb, sb⟩ := hb
  refine ⟨tLstRg (tRg1 tb), fun X C => ?_, fun Ze w σ ρ Q ok rs h => ?_⟩
  · have m1 : X.mg "list" = none := by rw [C.em]; exact hm
    have m2 : X.mg "range" = none := by rw [C.em]; exact hm2
    exact pe_listRg C.calm (gl_of C g).1 m1 (prg_1 (gl_of C g2).1 m2 (pb X C) (starEach_cons h2)) (starEach_cons rfl)
  · simp only [evF, ev, R.bind_ok] at h
    refine sb Ze w σ ρ _ ok rs ((post.bind h).imp fun x w1 n1 h1 v r1 => ?_)
    cases x with
    | h j => exact h1.elim
    | v d =>
      cases d with
      | int j =>
        cases r1
        refine ⟨j, rfl, ?_⟩
        exact rng_end (L := L) (W := W) (i := 0) (j := j) n1.ok h1
      | _ => exact h1.elim
/-! ### sorted(set(..)) -/
theorem mem_nub : ∀ {xs : List Int} {k : Int}, k ∈ nub xs ↔ k ∈ xs
  | [], k => by simp [nub]
  | x :: xs, k => by
    unfold nub
    split
    · rw [mem_nub]
      constructor
      · exact fun h => List.mem_cons_of_mem _ h
      · intro h
        rcases List.mem_cons.mp h with rfl | h
        · assumption
        · exact h
    · rw [List.mem_cons, List.mem_cons, mem_nub]
theorem nodup_nub : ∀ xs : List Int, (nub xs).Nodup
  | [] => List.nodup_nil
  | x :: xs => by
    unfold nub
    split
    · exact nodup_nub xs
    · exact List.nodup_cons.mpr ⟨fun h => by rw [mem_nub] at h; contradiction, nodup_nub xs⟩
theorem nodup_perm_of_mem : ∀ {xs ys : List Int}, xs.Nodup → ys.Nodup → (∀ k, k ∈ xs ↔ k ∈ ys) → xs.Perm ys := fun h1 h2 h => (List.perm_ext_iff_of_nodup h1 h2).mpr h
theorem ssi_perm {ns ms : List Int} (h1 : ms.Pairwise (· < ·)) (h2 : ∀ k, k ∈ ms ↔ k ∈ ns) : ms = srt (nub ns) := by
  have nd : ms.Nodup := h1.imp fun h => by omega
  refine perm_sorted_eq ((nodup_perm_of_mem nd (nodup_nub ns) fun k => by rw [h2, mem_nub]).trans (srt_perm _).symm) (h1.imp fun h => by omega) (srt_sorted _)
theorem snf_ssi (ha : SndE L N sc ca W e (ev G ie)) (g : globOk sc "sorted" = true) (hm : bltOk L "sorted") (g2 : globOk sc "set" = true) (hm2 : bltOk L "set") (h1 : noStar e = true) :
    SndF L N sc ca W (.Call (.Name "sorted" p) [.Call (.Name "set" p2) [e] [] p3] [] pos) (evF G (.ssi ie)) := by
  obtain ⟨ta, pa, sa⟩ := ha
  refine ⟨tCB (rSortedSet L.w) (tCons (tCB (rSetOf L.K L.w) (tCons ta tNil)) tNil), fun X C => ?_, fun Ze w σ ρ Q ok rs h => ?_⟩
  · have m1 : X.mg "sorted" = none := by rw [C.em]; exact hm
    have m2 : X.mg "set" = none := by rw [C.em]; exact hm2
    rw [← C.eK, ← C.ew]
    exact pe_callB (cr_sortedSet C.calm) (gl_of C g).1 m1 (by decide +kernel) (pa_cons (pe_callTy (cr_setL C.calm) (gl_of C g2).1 m2 (by decide +kernel) (pa_cons (pa X C) pa_nil (starEach_cons h1)) (by decide) (by decide) (starEach_cons h1) rfl) pa_nil (starEach_cons rfl))
      (by decide) (by decide) (starEach_cons rfl) rfl
  · simp only [evF] at h
    refine sa Ze w σ ρ _ ok rs ((post.bind h).imp fun x w1 n1 h1 v r1 => ?_)
    obtain ⟨o, e1, h2⟩ := post.opt n1.ok h1
    cases q : peek w1.φ x with
    | none => rw [q] at e1; cases e1
    | some d =>
      rw [q] at e1
      have rb := peek_rep n1.ok r1 q
      have e2 : ssiF d = some o := e1
      unfold ssiF at e2
      split at e2
      · rename_i ds
        cases qa : D.allInts ds with
        | none => rw [qa] at e2; cases e2
        | some ns =>
          rw [qa] at e2
          simp only [Option.bind_some] at e2
          split at e2
          · rename_i hc
            cases e2
            obtain ⟨a, rfl, hs⟩ := seqInts rb (.inl rfl) qa
            refine ⟨a, ns, rfl, hs, hc.2, fun l n hl hn => ?_⟩
            refine ⟨l, _, n, rfl, upd_same, ?_, fun ms q' h3 h4 h5 h6 => ?_⟩
            · have := hn _ (nodup_nub ns) fun k => mem_nub
              omega
            · have e3 : ms = srt (nub ns) := ssi_perm h3 fun k => by rw [h4, decide_eq_true_eq]
              subst e3
              have n2 : Nx L.K L.mg Ze w1 ⟨w1.α, w1.φ, upd w1.H l (SetO L.w l (fun j => decide (j ∈ ns)) n)⟩ := nx_ext n1.ok (Ext.upd hl)
              have n3 := nx_new (o := O.lst ((srt (nub ns)).map .int)) (p := q') (ho := .lst ((srt (nub ns)).map V.int)) n2.ok h6 ⟨_, rfl, Reps.ofInts _⟩
              exact h2 q' _ (n2.trans n3)
          · cases e2
      · cases e2
end
end Ev
/-! Part K0: enumerate over a tuple. -/
namespace Ev
open PySem PySem.Spec PyProof.Rows L2
theorem meets_enum_newT (l : Addr) (items : Array Value) (n : Nat) (dct : Option Addr) (sl : Array (Option Value)) :
    Meets (Builtin.«enumerate.__new__» ⟨[.type "enumerate", .ref l], []⟩) (fun _ R s => s.heap.get? l = some { cls := .type "tuple", dict := dct, data := .seq items n, slots := sl } ∧
      R (.ok (.ret (.ref (s.heap.push { cls := .type "tuple_iterator", data := .fields #[.ref l, .int 0 0] }).objs.size)))
        { s with heap := (s.heap.push { cls := .type "tuple_iterator", data := .fields #[.ref l, .int 0 0] }).push { cls := .type "enumerate", data := .fields #[.none, .bool false, .ref s.heap.objs.size, rawInt 0, .none, .none] } }) :=
  .of_wp fun prog w A R s h => by
    obtain ⟨hp, g, d, tk, os⟩ := s; obtain ⟨hl, h⟩ := h
    have hsub := sub_enumerate
    have hL : Heap.IsTuple (Shared.heap ⟨hp, g, d, tk, os⟩) l items := ⟨_, hl, rfl, n, rfl⟩
    wp_walk using AutoSeq1.wpAny_loadPart' hl
    refine wpAny_stack_any fun st => wpAny_pure ?_
    split
    · rename_i c _ _ _ _ _
      cases (c == Value.type "enumerate")
      · wp_walk using AutoSeq1.wpAny_loadPart' hl, wpAny_pyIter_tuple hL
        exact ⟨_, rfl, h⟩
      · wp_walk using AutoSeq1.wpAny_loadPart' hl, wpAny_pyIter_tuple hL
        exact ⟨_, rfl, h⟩
    · wp_walk using AutoSeq1.wpAny_loadPart' hl, wpAny_pyIter_tuple hL
      exact ⟨_, rfl, h⟩
theorem call_enumT {prog : Program} {w : World} {A : Around} {E : Value → Shared → Prop} {s : Shared} {l : Addr} {items : Array Value} {Q : Value → Shared → Prop} (hL : s.heap.IsTuple l items)
    (h : ∀ h', IsEnum h' (s.heap.objs.size + 1) s.heap.objs.size 0 .none → h'.IsTupleIter s.heap.objs.size l 0 → h'.objs.size = s.heap.objs.size + 2 → (∀ b o, s.heap.get? b = some o → h'.get? b = some o) → Q (.ref (s.heap.objs.size + 1)) { s with heap := h' }) :
    wpAny (model prog w) A (call (.type "enumerate") [.ref l]) Q E s := by
  obtain ⟨⟨c, dct, dt, sl⟩, hl, hc, n, hd⟩ := hL
  replace hc : c = .type "tuple" := hc
  replace hd : dt = .seq items n := hd
  subst hc hd
  refine callType_new F.called_enumerate (by decide) (F.typeCall_enumerate_1 _) (F.newCall_enumerate_1 _) (fun obj => F.args_object_init_2 obj _) F.entry_enumerate_new (meets_enum_newT l items n dct sl) ⟨hl, ?_⟩
  have hz : (s.heap.push { cls := .type "tuple_iterator", data := .fields #[.ref l, .int 0 0] }).objs.size = s.heap.objs.size + 1 := Heap.size_push ..
  show _ ∧ _
  rw [hz]
  have he : IsEnum ((s.heap.push { cls := .type "tuple_iterator", data := .fields #[.ref l, .int 0 0] }).push
      { cls := .type "enumerate", data := .fields #[.none, .bool false, .ref s.heap.objs.size, rawInt 0, .none, .none] }) (s.heap.objs.size + 1) s.heap.objs.size 0 .none := by
    have := Heap.get?_push_size (s.heap.push { cls := .type "tuple_iterator", data := .fields #[.ref l, .int 0 0] }) (o := { cls := .type "enumerate", data := .fields #[.none, .bool false, .ref s.heap.objs.size, rawInt 0, .none, .none] }) rfl
    rw [hz] at this; exact this
  refine ⟨⟨_, he, rfl⟩, h _ he ⟨_, Heap.get?_push_of_some _ (Heap.get?_push_size _ rfl), rfl, rfl⟩ (by rw [Heap.size_push, hz]) fun b o x => Heap.get?_push_of_some _ (Heap.get?_push_of_some _ x)⟩
/-- the tuple at a, each item in a new pair -/
def IteT (K : PySem.W.Frag) (a : Addr) : It :=
  ⟨fun i H => ∃ (xs : List V) (x : V), SqT K H a xs ∧ xs[i]? = some x, fun i H v H' => ∃ T x, v = .ref T ∧ H T = none ∧ H' = upd H T (.tup [.int (i : Nat), x]) ∧ ∀ xs, SqT K H a xs → xs[i]? = some x, fun i H => ∃ xs : List V, SqT K H a xs ∧ xs.length ≤ i⟩
theorem tup_inj {X : Cx} {pins : List (Addr × Obj)} {σ : SS} {H : Hp} {s : Shared} {a : Addr} {xs ys : List V} {i : Nat} {x : V} (I : Inv X pins σ H s) (h1 : SqT X.K H a xs) (h2 : SqT X.K H a ys) (e : xs[i]? = some x) : ys[i]? = some x := by
  rw [I.tuple_inj h2 h1]; exact e
theorem turn_enumT {P : Program} {w : World} {K : PySem.W.Frag} {elts : List Expr} {kk : Nat} {tpos : Pos} (a e it : Addr) :
    Turn P w K (.Tuple elts kk tpos) (IteT K a) [e, it] e (fun i h => (∃ old, IsEnum h e it ((i : Nat) : Int) old) ∧ h.IsTupleIter it a i ∧ e ≠ it) where
  mem := by simp
  obj := fun i h st b hb => by
    obtain ⟨⟨old, he⟩, ⟨o, ho, hc, hd⟩, _⟩ := st
    have e' : b = e ∨ b = it := by simpa using hb
    rcases e' with z | z
    · rw [z]; exact ⟨_, he, fun v q => nomatch q⟩
    · rw [z]; exact ⟨o, ho, fun v q => by rw [hd] at q; cases q⟩
  keep := fun i h h' st k => let ⟨⟨old, he⟩, hi, hne⟩ := st; ⟨⟨old, k e (by simp) _ he⟩, hi.at fun o q => k it (by simp) o q, hne⟩
  item := by
    intro X hP hw hK hc i pins s σ H E I hf st hg
    subst hP hw hK
    obtain ⟨⟨old, he⟩, hit, hne⟩ := st
    obtain ⟨xs, x, hq, hx⟩ := hg
    obtain ⟨its, rv, p, hz⟩ := I.tuple hq
    have p' : s.heap.IsTuple a its.toArray := p
    obtain ⟨u, hu, ru⟩ := rv.get hx
    have hel : e < s.heap.objs.size := Heap.lt_size he
    have hil : it < s.heap.objs.size := by obtain ⟨_, q, _⟩ := hit; exact Heap.lt_size q
    have nea : e ≠ a := fun z => by
      obtain ⟨o, ho, hcl, _⟩ := p'
      rw [← z] at ho
      have he0 := he
      unfold IsEnum at he0
      rw [he0] at ho; cases ho
      injection hcl with q
      exact absurd q (by decide)
    have nia : a ≠ it := fun z => by
      obtain ⟨o, ho, hcl, _⟩ := p'
      obtain ⟨o2, ho2, hcl2, _⟩ := hit
      rw [z] at ho
      rw [ho] at ho2; cases ho2
      rw [hcl] at hcl2
      injection hcl2 with q
      exact absurd q (by decide)
    have D := Draws.tuple (prog := X.prog) (w := X.w) (A := X.A.in1) (I.ok.hd hc) it a nia its.toArray
    refine wpAny_pyNext_enum_itemD D he ⟨hit, p'⟩ (by
      have := (List.getElem?_eq_some_iff.mp hu).1
      simpa using this) hne (by
      intro hm
      rcases List.mem_cons.mp hm with z | hm
      · exact hne z
      · exact nea (List.mem_singleton.mp hm)) fun y h' tk hy ho hit' hT hsz hk => ?_
    obtain rfl : y = u := by
      have hy' : its.toArray[i]? = some y := hy
      rw [List.getElem?_toArray, hu] at hy'
      exact (Option.some.inj hy').symm
    refine ⟨_, rfl, wpAny_letOwnedTupleGo_enum (s := { s with heap := h', toks := tk + 1 }) ho fun h'' he' sb => ?_⟩
    have hT2 : h''.get? s.heap.objs.size = some { cls := .type "tuple", data := .seq #[.int i tk, y] } := (sb.2 _ (Nat.ne_of_gt hel)).trans hT
    have new : ObjOk X.prog X.w (upd H s.heap.objs.size (.tup [.int (i : Nat), x])) h'' s.heap.objs.size (.tup [.int (i : Nat), x]) :=
      ⟨by show 2 ≤ sizeLine; decide, [.int i tk, y], .cons ⟨_, rfl⟩ (.cons ru .nil), ⟨_, hT2, rfl, _, rfl⟩⟩
    have I1 : Inv X pins σ (upd H s.heap.objs.size (.tup [.int (i : Nat), x])) { s with heap := h'', toks := tk + 1 } :=
      I.turnedNew (ch := [e, it]) (fun b ob hb q => (sb.2 b (fun z => hb (by simp [z]))).trans (hk b ob (fun z => hb (by simp [z])) (fun z => hb (by simp [z])) q)) hf (Nat.le_refl _) new
    refine ⟨.ref s.heap.objs.size, _, I1, rfl, ⟨_, x, rfl, I.hok.fresh (Nat.le_refl _), rfl, fun ys hy => tup_inj I hq hy hx⟩, ⟨⟨y, ?_⟩, hit'.1.at fun o q => (sb.2 it (Ne.symm hne)).trans q, hne⟩, fun b hb => ?_⟩
    · have e1 : ((i + 1 : Nat) : Int) = (i : Int) + 1 := by omega
      rw [e1]; exact he'
    · have hb' : b < s.heap.objs.size := by
        have e' : b = e ∨ b = it := by simpa using hb
        rcases e' with z | z
        · rw [z]; exact hel
        · rw [z]; exact hil
      rw [upd_ne (Nat.ne_of_lt hb')]
      exact (hf b hb).1
  done := by
    intro X hP hw hK hc i pins s σ H E I hf st hg
    subst hP hw hK
    obtain ⟨⟨old, he⟩, hit, hne⟩ := st
    obtain ⟨xs, hq, hx⟩ := hg
    obtain ⟨its, rv, p, hz⟩ := I.tuple hq
    have p' : s.heap.IsTuple a its.toArray := p
    obtain ⟨f0, f1, f2, f3, f4, f5⟩ := hf it (by simp)
    have hl := rv.length
    have hT : s.TypeIs (.ref e) "enumerate" := ⟨_, he, rfl⟩
    unfold pyNext
    refine wpAny_bind (wpAny_attempt (wpAny_callSpecial?_slot (name := Str.ofString "__next__") hT F.slot_enumerate_next (wpAny_call_entry F.slot_enumerate_next hT F.entry_enumerate_next ?_ (F.args_enumerate_next_1 _))))
    show wpAny _ _ (field (.ref e) 2 >>= _) _ _ _
    refine wpAny_bind (wpAny_field he rfl (x := .ref it) rfl ?_)
    refine wpAny_bind (wpAny_nextOf_tuple_end (I.ok.hd hc) hit p' (by simp; omega) fun h' x he' hx' => ?_)
    obtain ⟨o, ho, hc⟩ := hx'
    refine wpAny_bind (wpAny_isInstance (T := "StopIteration") (b := true) ⟨o, ho, hc⟩ isSubtype_stop ?_)
    exact wpAny_pure ⟨rfl, I.turned (t' := s.toks) (fun b o hb q => he' b o hb q) f0 f1 f3 f4 f5⟩
  self := fun A i s Q E st h => let ⟨⟨_, he⟩, _⟩ := st; wpAny_pyIter_enum he h
/-- enumerate over a list or a tuple -/
def iEnumA (K : PySem.W.Frag) (ta : TA) : TI := fun σ H R => ta σ H fun vs H1 => ∃ a xs, vs = [.ref a] ∧ ((SqL K H1 a xs ∧ R (Ite K a) H1) ∨ (SqT K H1 a xs ∧ R (IteT K a) H1))
theorem pi_enumA {X : Cx} {e : Expr} {ta : TA} {p pos tpos : Pos} {elts : List Expr} {kk : Nat} (hg : Gl X "enumerate") (hm : X.mg "enumerate" = none) (ha : PA X [e] ta) (hs : starEach [e] X.env = [(false, eval e X.env)] := by rfl) :
    PI X (.Tuple elts kk tpos) (.Call (.Name "enumerate" p) [e] [] pos) (iEnumA X.K ta) := by
  refine ⟨fun pins s σ H R I h => ?_⟩
  refine Call_ (ld_blt I hg hm boot_enumerate (PyProof.Rows.callWith_type1 (thn (ha.run pos pins s σ H _ I h) fun us s1 ⟨vs, H1, I1, r1, q1⟩ => ?_) hs rfl))
  obtain ⟨a, xs, ex, q1⟩ := q1
  subst ex
  cases r1 with
  | cons r rr =>
    cases rr
    cases r
    have fresh : ∀ b ∈ [s1.heap.objs.size + 1, s1.heap.objs.size], FpOk X pins H1 b := fun b hb => by
      have e' : b = s1.heap.objs.size + 1 ∨ b = s1.heap.objs.size := by simpa using hb
      have hle : s1.heap.objs.size ≤ b := by
        rcases e' with z | z
        · rw [z]; exact Nat.le_add_right _ _
        · rw [z]; exact Nat.le_refl _
      exact I1.fpOk hle (I1.hok.fresh hle)
    rcases q1 with ⟨hq, q⟩ | ⟨hq, q⟩
    · obtain ⟨its, rv, p', hz⟩ := I1.list hq
      refine call_enumerate_list p'.isList fun h' he hit hsz hk => wpAny_pyIter_enum he ?_
      have I2 : Inv X pins σ H1 { s1 with heap := h' } := I1.kept (t' := s1.toks) hk
      exact ⟨s1.heap.objs.size + 1, [s1.heap.objs.size + 1, s1.heap.objs.size], _, _, H1, rfl, I2, turn_enum a (s1.heap.objs.size + 1) s1.heap.objs.size, ⟨⟨.none, he⟩, hit, Nat.succ_ne_self _⟩, fresh, q⟩
    · obtain ⟨its, rv, p', hz⟩ := I1.tuple hq
      refine call_enumT (show s1.heap.IsTuple a its.toArray from p') fun h' he hit hsz hk => wpAny_pyIter_enum he ?_
      have I2 : Inv X pins σ H1 { s1 with heap := h' } := I1.kept (t' := s1.toks) hk
      exact ⟨s1.heap.objs.size + 1, [s1.heap.objs.size + 1, s1.heap.objs.size], _, _, H1, rfl, I2, turn_enumT a (s1.heap.objs.size + 1) s1.heap.objs.size, ⟨⟨.none, he⟩, hit, Nat.succ_ne_self _⟩, fresh, q⟩
end Ev
/-! Part K: what a loop walks; targets. -/
namespace Ev
open PySem PySem.Spec PyProof.Rows L2
/-! ### locks -/
def Unl (φ φ' : List O) : Prop := φ'.length = φ.length ∧ ∀ i : Nat, φ'[i]? = φ[i]? ∨ ∃ ds, φ[i]? = some (O.lck ds) ∧ φ'[i]? = some (O.lst ds)
theorem unlockL_spec : ∀ {lk : List (Nat × List D)} {φ φ' : List O}, (∀ p ∈ lk, φ[p.1]? = some (.lck p.2)) → Unl φ φ' → Unl φ (unlockL lk φ')
  | [], _, _, _, u => u
  | (j, ds) :: r, φ, φ', h, u => by
    show Unl φ (unlockL r (φ'.set j (.lst ds)))
    refine unlockL_spec (lk := r) (φ := φ) (φ' := φ'.set j (.lst ds)) (fun p hp => h p (List.mem_cons_of_mem _ hp)) ⟨by rw [List.length_set]; exact u.1, fun i => ?_⟩
    have hj := h (j, ds) List.mem_cons_self
    by_cases hi : i = j
    · subst hi
      have hl : i < φ'.length := by rw [u.1]; exact (List.getElem?_eq_some_iff.mp hj).1
      exact .inr ⟨ds, hj, List.getElem?_set_self hl⟩
    · rw [List.getElem?_set_ne (Ne.symm hi)]
      exact u.2 i
theorem unlockL_other : ∀ {lk : List (Nat × List D)} {φ : List O} {i : Nat}, (∀ p ∈ lk, p.1 ≠ i) → (unlockL lk φ)[i]? = φ[i]?
  | [], _, _, _ => rfl
  | (j, ds) :: r, φ, i, h => by
    show (unlockL r (φ.set j (.lst ds)))[i]? = _
    rw [unlockL_other fun p hp => h p (List.mem_cons_of_mem _ hp)]
    exact List.getElem?_set_ne (h (j, ds) List.mem_cons_self)
section
variable {L : Lw} {N : List Str} {sc : Scope} {ca : Str → Bool} {W : XK} {Ze : Addr → Prop} {w w0 w1 w2 w' : Wd}
theorem Unl.live {α : List Addr} {φ φ' : List O} {H : Hp} (u : Unl φ φ') (b : Addr) : Live ⟨α, φ', H⟩ b ↔ Live ⟨α, φ, H⟩ b := by
  constructor
  · rintro ⟨j, o, e1, e2, e3⟩
    change φ'[j]? = some o at e2
    rcases u.2 j with q | ⟨ds, q, q'⟩
    · exact ⟨j, o, e1, by rw [← q]; exact e2, e3⟩
    · exact ⟨j, _, e1, q, rfl⟩
  · rintro ⟨j, o, e1, e2, e3⟩
    change φ[j]? = some o at e2
    rcases u.2 j with q | ⟨ds, q, q'⟩
    · exact ⟨j, o, e1, by show φ'[j]? = _; rw [q]; exact e2, e3⟩
    · exact ⟨j, _, e1, q', rfl⟩
theorem Unl.zone {α : List Addr} {φ φ' : List O} {H : Hp} (u : Unl φ φ') : Z Ze ⟨α, φ', H⟩ = Z Ze ⟨α, φ, H⟩ := by
  funext a
  unfold Z
  rw [u.live a]
theorem Unl.ok {α : List Addr} {φ φ' : List O} {H : Hp} (u : Unl φ φ') (ok : Ok L.K L.mg Ze ⟨α, φ, H⟩) : Ok L.K L.mg Ze ⟨α, φ', H⟩ := by
  refine ⟨ok.len.trans u.1.symm, ok.nd, ok.dom, ok.adom, ok.out, fun j a o e1 e2 => ?_⟩
  rw [u.zone]
  change φ'[j]? = some o at e2
  rcases u.2 j with q | ⟨ds, q, q'⟩
  · exact ok.store j a o e1 (q.symm.trans e2)
  · rw [q'] at e2; cases e2
    have s := ok.store j a _ e1 q
    exact s
structure Lks (lk : List (Nat × List D)) (w0 w1 : Wd) : Prop where
  a : ∀ p ∈ lk, w0.φ[p.1]? = some (.lst p.2)
  b : ∀ p ∈ lk, w1.φ[p.1]? = some (.lck p.2)
theorem nx_unl {lk : List (Nat × List D)} (n1 : Nx L.K L.mg Ze w0 w1) (lks : Lks lk w0 w1) (n2 : Nx L.K L.mg Ze w1 w') :
    Nx L.K L.mg Ze w0 ⟨w'.α, unlockL lk w'.φ, w'.H⟩ ∧ Z Ze ⟨w'.α, unlockL lk w'.φ, w'.H⟩ = Z Ze w' := by
  have u : Unl w'.φ (unlockL lk w'.φ) := unlockL_spec (fun p hp => n2.st.lck _ _ (lks.b p hp)) ⟨rfl, fun i => .inl rfl⟩
  have st := n1.st.trans n2.st
  refine ⟨⟨u.ok n2.ok, ⟨st.pre, st.keep, fun b l => st.live b ((u.live b).mp l), fun j ds e => ?_, st.there⟩⟩, u.zone⟩
  have e2 := st.lck j ds e
  show (unlockL lk w'.φ)[j]? = _
  rw [unlockL_other fun p hp z => ?_]
  · exact e2
  · have := lks.a p hp
    rw [z, e] at this; cases this
/-! ### what is walked -/
/-- a later world whose zone may have new places -/
structure Fol (L : Lw) (Ze : Addr → Prop) (w1 : Wd) (Zf : Addr → Prop) (w' : Wd) : Prop where
  ok : Ok L.K L.mg Zf w'
  st : Step w1 w'
  le : ∀ a o, w1.H a = some o → Zf a → Ze a
theorem Fol.of (n : Nx L.K L.mg Ze w1 w') : Fol L Ze w1 Ze w' := ⟨n.ok, n.st, fun _ _ _ z => z⟩
theorem Fol.nx {Zf : Addr → Prop} (f : Fol L Ze w1 Zf w') (n : Nx L.K L.mg Zf w' w2) : Fol L Ze w1 Zf w2 := ⟨n.ok, f.st.trans n.st, f.le⟩
theorem Fol.pre {Zf : Addr → Prop} (n : Nx L.K L.mg Ze w w1) (f : Fol L Ze w1 Zf w') : Fol L Ze w Zf w' := ⟨f.ok, n.st.trans f.st, fun a o e z => by
  obtain ⟨o', e'⟩ := n.st.there a o e
  exact f.le a o' e' z⟩
theorem Fol.keeps {Zf : Addr → Prop} (ok : Ok L.K L.mg Ze w1) (f : Fol L Ze w1 Zf w') : Keeps w1.H w'.H (Z Ze w1) (Z Zf w') where
  fix := fun a o e n => f.st.keep a o e fun l => n (.inr l)
  tup := fun a xs e => f.st.keep a _ e fun l => (ok.liveNot l).1 xs e
  frz := fun a x u e => f.st.keep a _ e fun l => (ok.liveNot l).2 x u e
  zone := fun a o e n z => by
    rcases z with z | z
    · exact n (.inl (f.le a o e z))
    · rcases f.st.live a z with z | z
      · exact n (.inr z)
      · rw [e] at z; cases z
structure Wlk (L : Lw) (Ze : Addr → Prop) (J : It) (ds : List D) (w1 : Wd) : Prop where
  go : ∀ i Zf w, Fol L Ze w1 Zf w → i < ds.length → J.go i w.H
  yld : ∀ i d Zf w v H', Fol L Ze w1 Zf w → ds[i]? = some d → J.yld i w.H v H' → Ext w.H H' ∧ Rep L.K L.mg H' (Z Zf w) v d
  stop : ∀ i Zf w, Fol L Ze w1 Zf w → ds.length ≤ i → J.stop i w.H
/-- the list or tuple at a stays -/
def Stays (L : Lw) (Ze : Addr → Prop) (a : Addr) (ds : List D) (isL : Bool) (w1 : Wd) : Prop :=
  ∀ Zf w', Fol L Ze w1 Zf w' → ∃ vs, (if isL = true then SqL L.K w'.H a vs else SqT L.K w'.H a vs) ∧ Reps L.K L.mg w'.H (Z Zf w') vs ds
theorem Stays.nx {a : Addr} {ds : List D} {b : Bool} (h : Stays L Ze a ds b w1) (n : Nx L.K L.mg Ze w1 w2) : Stays L Ze a ds b w2 := fun Zf w' n' => h Zf w' (n'.pre n)
theorem stays_tree {a : Addr} {d : D} {ds : List D} {b : Bool} (ok : Ok L.K L.mg Ze w) (r : Rep L.K L.mg w.H (Z Ze w) (.ref a) d) (e : d.seqs = some (ds, b)) : Stays L Ze a ds b w := fun Zf w' n => by
  have r' := Rep.keeps (n.keeps ok) r
  cases r' with
  | tup h q => cases e; exact ⟨_, h.sqT, q⟩
  | lst h z q => cases e; exact ⟨_, SqL.of h, q⟩
  | rls h q => cases e; exact ⟨_, h.sqL, q⟩
  | _ => cases e
theorem seqs_ref {H : Hp} {Zp : Addr → Prop} {K : PySem.W.Frag} {mg : Str → Option Value} {v : V} {d : D} {p : List D × Bool} (r : Rep K mg H Zp v d) (e : d.seqs = some p) : ∃ a, v = .ref a := by
  cases r <;> first | exact ⟨_, rfl⟩ | cases e
/-- a thing that is to be walked: it stays, it may be locked -/
theorem walk_of {x : X1} {v : V} {β : Type} {f : Wk → List O → R β} {k : β → Wd → Prop} (ok : Ok L.K L.mg Ze w) (r : RepX L.K L.mg Ze w v x) (h : post L.K L.mg Ze W ((walkX x w.φ).bind f) w k) :
    ∃ a wk w1, v = .ref a ∧ Nx L.K L.mg Ze w w1 ∧ w1.H = w.H ∧ w1.α = w.α ∧ Lks wk.lk w w1 ∧ Stays L Ze a wk.ds wk.isL w1 ∧ walkX x w.φ = .ok wk w1.φ := by
  cases x with
  | v d =>
    simp only [walkX] at h ⊢
    cases q : d.seqs with
    | none => rw [q] at h; exact h.elim
    | some p =>
      obtain ⟨ds, b⟩ := p
      obtain ⟨a, rfl⟩ := seqs_ref r q
      exact ⟨a, ⟨ds, b, []⟩, w, rfl, .refl ok, rfl, rfl, ⟨(fun _ h => nomatch h), (fun _ h => nomatch h)⟩, stays_tree ok r q, rfl⟩
  | h j =>
    obtain ⟨a, ea, rfl⟩ := r
    simp only [walkX] at h ⊢
    cases q : w.φ[j]? with
    | none => rw [q] at h; exact h.elim
    | some o =>
      rw [q] at h
      cases o with
      | lst ds =>
        obtain ⟨y, hy⟩ := ok.adom j a ea
        have lv : ∀ b, Live w b → Live ⟨w.α, w.φ.set j (.lck ds), w.H⟩ b := fun b ⟨i, o, e1, e2, e3⟩ => by
          by_cases hi : i = j
          · subst hi
            exact ⟨i, _, e1, List.getElem?_set_self (List.getElem?_eq_some_iff.mp q).1, rfl⟩
          · exact ⟨i, o, e1, by show (w.φ.set j _)[i]? = _; rw [List.getElem?_set_ne (Ne.symm hi)]; exact e2, e3⟩
        have hz : Z Ze ⟨w.α, w.φ.set j (.lck ds), w.H⟩ = Z Ze w := by
          funext b
          apply propext
          constructor
          · rintro (z | z)
            · exact .inl z
            · exact .inr (live_set ea q rfl z)
          · rintro (z | z)
            · exact .inl z
            · exact .inr (lv b z)
        have n : Nx L.K L.mg Ze w ⟨w.α, w.φ.set j (.lck ds), w.H⟩ := nx_set ok ea q rfl (fun _ e => nomatch e) (fun _ _ _ e => e) ⟨y, hy⟩ (by rw [hz]; have s := ok.store j a _ ea q; exact s)
        have ej : (w.φ.set j (.lck ds))[j]? = some (.lck ds) := List.getElem?_set_self (List.getElem?_eq_some_iff.mp q).1
        refine ⟨a, ⟨ds, true, [(j, ds)]⟩, _, rfl, n, rfl, rfl, ⟨fun p hp => ?_, fun p hp => ?_⟩, fun Zf w' n' => ?_, rfl⟩
        · rw [List.mem_singleton.mp hp]; exact q
        · rw [List.mem_singleton.mp hp]; exact ej
        · have e2 := n'.st.lck j ds ej
          have e1 : w'.α[j]? = some a := by
            obtain ⟨β, eβ, _⟩ := n'.st.pre
            rw [eβ]
            change (w.α ++ β)[j]? = _
            rw [List.getElem?_append_left (List.getElem?_eq_some_iff.mp ea).1]; exact ea
          obtain ⟨vs, hv, rv⟩ := n'.ok.store j a _ e1 e2
          exact ⟨vs, SqL.of hv, rv⟩
      | lck ds =>
        refine ⟨a, ⟨ds, true, []⟩, w, rfl, .refl ok, rfl, rfl, ⟨(fun _ h => nomatch h), (fun _ h => nomatch h)⟩, fun Zf w' n' => ?_, rfl⟩
        have e2 := n'.st.lck j ds q
        have e1 : w'.α[j]? = some a := by
          obtain ⟨β, eβ, _⟩ := n'.st.pre
          rw [eβ, List.getElem?_append_left (List.getElem?_eq_some_iff.mp ea).1]; exact ea
        obtain ⟨vs, hv, rv⟩ := n'.ok.store j a _ e1 e2
        exact ⟨vs, SqL.of hv, rv⟩
      | frz d =>
        simp only at h ⊢
        cases qd : d.seqs with
        | none => rw [qd] at h; exact h.elim
        | some p =>
          obtain ⟨ds, b⟩ := p
          exact ⟨a, ⟨ds, b, []⟩, w, rfl, .refl ok, rfl, rfl, ⟨(fun _ h => nomatch h), (fun _ h => nomatch h)⟩, stays_tree ok (ok.store j a _ ea q) qd, rfl⟩
      | dct ks ds => exact h.elim
      | ins c ns ds => exact h.elim
/-- the shape of what follows a walk -/
def Aft {γ δ : Type} (f : R Wk) (rest : Wk → List O → R γ) (fin : γ → δ) : R δ := f.bind fun wk φ1 => (rest wk φ1).bind fun o φ2 => .ok (fin o) (unlock wk φ2)
theorem post_unl {γ δ : Type} {r : R γ} {fin : γ → δ} {lk : List (Nat × List D)} {k : δ → Wd → Prop} (n1 : Nx L.K L.mg Ze w0 w1) (lks : Lks lk w0 w1)
    (h : post L.K L.mg Ze W (r.bind fun o φ2 => .ok (fin o) (unlockL lk φ2)) w0 k) : post L.K L.mg Ze W r w1 (fun o w' => ∃ w'', w''.H = w'.H ∧ w''.α = w'.α ∧ Z Ze w'' = Z Ze w' ∧ Nx L.K L.mg Ze w0 w'' ∧ k (fin o) w'') := by
  cases r with
  | bad => exact h
  | ok o φ' =>
    intro w' e n
    subst e
    obtain ⟨n3, hz⟩ := nx_unl n1 lks n
    exact ⟨⟨w'.α, unlockL lk w'.φ, w'.H⟩, rfl, rfl, hz, n3, h _ rfl n3⟩
  | exc c d φ' => exact fun w' cls a e n q => h w' cls a e (n1.trans n) q
/-- an iterable: its readings -/
def SndI (L : Lw) (N : List Str) (sc : Scope) (ca : Str → Bool) (W : XK) (tg iter : Expr) (f : List Sl → List O → R Wk) : Prop :=
  ∃ wi : TI, (∀ X, Ctx L N sc ca W X → PI X tg iter wi) ∧ ∀ (Ze : Addr → Prop) w σ ρ (R' : It → Hp → Prop) (γ δ : Type) (rest : Wk → List O → R γ) (fin : γ → δ) (k : δ → Wd → Prop), Ok L.K L.mg Ze w → RepS L.K L.mg Ze w σ ρ →
    post L.K L.mg Ze W (Aft (f ρ w.φ) rest fin) w k →
    (∀ J wk w1, Nx L.K L.mg Ze w w1 → Wlk L Ze J wk.ds w1 → post L.K L.mg Ze W (rest wk w1.φ) w1 (fun o w' => ∃ w'', w''.H = w'.H ∧ w''.α = w'.α ∧ Z Ze w'' = Z Ze w' ∧ Nx L.K L.mg Ze w w'' ∧ k (fin o) w'') → R' J w1.H) → wi σ w.H R'
theorem unl_of {γ δ : Type} {r : R γ} {fin : γ → δ} {lk : List (Nat × List D)} {k : δ → Wd → Prop} (n0 : Nx L.K L.mg Ze w w0) (n1 : Nx L.K L.mg Ze w0 w1) (lks : Lks lk w0 w1)
    (h : post L.K L.mg Ze W (r.bind fun o φ2 => .ok (fin o) (unlockL lk φ2)) w0 k) : post L.K L.mg Ze W r w1 (fun o w' => ∃ w'', w''.H = w'.H ∧ w''.α = w'.α ∧ Z Ze w'' = Z Ze w' ∧ Nx L.K L.mg Ze w w'' ∧ k (fin o) w'') :=
  (post_unl n1 lks h).imp fun o w' _ ⟨w'', h1, h2, h3, h4, h5⟩ => ⟨w'', h1, h2, h3, n0.trans h4, h5⟩
/-! #### the iterators -/
theorem wlk_list {a : Addr} {ds : List D} (s : Stays L Ze a ds true w1) : Wlk L Ze (Itl L.K a) ds w1 where
  go := fun i Zf w n h => by
    obtain ⟨vs, h1, r⟩ := s Zf w n
    have hl := r.length
    exact ⟨vs, vs[i]'(by omega), h1, List.getElem?_eq_getElem _⟩
  yld := fun i d Zf w v H' n e y => by
    obtain ⟨vs, h1, r⟩ := s Zf w n
    obtain ⟨rfl, y⟩ := y
    obtain ⟨v', e2, rv⟩ := r.get e
    have := y vs h1
    rw [e2] at this; cases this
    exact ⟨Ext.refl, rv⟩
  stop := fun i Zf w n h => by
    obtain ⟨vs, h1, r⟩ := s Zf w n
    exact ⟨vs, h1, by rw [r.length]; exact h⟩
theorem wlk_tup {a : Addr} {ds : List D} (s : Stays L Ze a ds false w1) : Wlk L Ze (Itt L.K a) ds w1 where
  go := fun i Zf w n h => by
    obtain ⟨vs, h1, r⟩ := s Zf w n
    have hl := r.length
    exact ⟨vs, vs[i]'(by omega), h1, List.getElem?_eq_getElem _⟩
  yld := fun i d Zf w v H' n e y => by
    obtain ⟨vs, h1, r⟩ := s Zf w n
    obtain ⟨rfl, y⟩ := y
    obtain ⟨v', e2, rv⟩ := r.get e
    have := y vs h1
    rw [e2] at this; cases this
    exact ⟨Ext.refl, rv⟩
  stop := fun i Zf w n h => by
    obtain ⟨vs, h1, r⟩ := s Zf w n
    exact ⟨vs, h1, by rw [r.length]; exact h⟩
theorem rngL_get {lo hi : Int} {i : Nat} {d : D} (e : (rngL lo hi)[i]? = some d) : d = .int (lo + i) := by
  unfold rngL at e
  rw [List.getElem?_map] at e
  cases q : (List.range (hi - lo).toNat)[i]? with
  | none => rw [q] at e; cases e
  | some j =>
    rw [q] at e; cases e
    rw [List.getElem?_range (by have := (List.getElem?_eq_some_iff.mp q).1; simpa using this)] at q
    cases q; rfl
theorem rngL_length (lo hi : Int) : (rngL lo hi).length = (hi - lo).toNat := by unfold rngL; simp
theorem wlk_rng (lo hi : Int) : Wlk L Ze (Itr lo (hi - lo).toNat) (rngL lo hi) w1 where
  go := fun i Zf w n h => by rw [rngL_length] at h; exact h
  yld := fun i d Zf w v H' n e y => by
    obtain ⟨rfl, rfl⟩ := y
    rw [rngL_get e]
    exact ⟨Ext.refl, .int _⟩
  stop := fun i Zf w n h => by rw [rngL_length] at h; exact h
theorem enumL_get : ∀ {ds : List D} {k i : Nat} {d : D}, (enumL ds k)[i]? = some d → ∃ d', ds[i]? = some d' ∧ d = .wtp [.int (k + i : Nat), d']
  | [], _, _, _, e => by simp [enumL] at e
  | x :: ds, k, 0, d, e => by
    simp only [enumL, List.getElem?_cons_zero, Option.some.injEq] at e
    subst e; exact ⟨x, rfl, rfl⟩
  | x :: ds, k, i + 1, d, e => by
    simp only [enumL, List.getElem?_cons_succ] at e
    obtain ⟨d', e1, e2⟩ := enumL_get e
    exact ⟨d', by simpa using e1, by rw [e2]; congr 3; omega⟩
theorem enumL_length : ∀ (ds : List D) (k : Nat), (enumL ds k).length = ds.length
  | [], _ => rfl
  | x :: ds, k => by simp only [enumL, List.length_cons, enumL_length ds (k + 1)]
theorem pair_rep {K : PySem.W.Frag} {mg : Str → Option Value} {H : Hp} {Zp : Addr → Prop} {T : Addr} {x y : V} {d e : D} (n : H T = none) (r : Rep K mg H Zp x d) (q : Rep K mg H Zp y e) : Rep K mg (upd H T (.tup [x, y])) Zp (.ref T) (.wtp [d, e]) :=
  .wtp (SqT.of upd_same) (.cons (Rep.keeps (Ext.keeps (Ext.upd n)) r) (.cons (Rep.keeps (Ext.keeps (Ext.upd n)) q) .nil))
theorem wlk_enum {a : Addr} {ds : List D} (s : Stays L Ze a ds true w1) : Wlk L Ze (Ite L.K a) (enumL ds) w1 where
  go := fun i Zf w n h => by
    rw [enumL_length] at h
    obtain ⟨vs, h1, r⟩ := s Zf w n
    have hl := r.length
    exact ⟨vs, vs[i]'(by omega), h1, List.getElem?_eq_getElem _⟩
  yld := fun i d Zf w v H' n e y => by
    obtain ⟨vs, h1, r⟩ := s Zf w n
    obtain ⟨T, x, rfl, hT, rfl, y⟩ := y
    obtain ⟨d', e1, rfl⟩ := enumL_get e
    obtain ⟨v', e2, rv⟩ := r.get e1
    have := y vs h1
    rw [e2] at this; cases this
    rw [Nat.zero_add]
    exact ⟨Ext.upd hT, pair_rep hT (.int _) rv⟩
  stop := fun i Zf w n h => by
    rw [enumL_length] at h
    obtain ⟨vs, h1, r⟩ := s Zf w n
    exact ⟨vs, h1, by rw [r.length]; exact h⟩
theorem wlk_enumT {a : Addr} {ds : List D} (s : Stays L Ze a ds false w1) : Wlk L Ze (IteT L.K a) (enumL ds) w1 where
  go := fun i Zf w n h => by
    rw [enumL_length] at h
    obtain ⟨vs, h1, r⟩ := s Zf w n
    have hl := r.length
    exact ⟨vs, vs[i]'(by omega), h1, List.getElem?_eq_getElem _⟩
  yld := fun i d Zf w v H' n e y => by
    obtain ⟨vs, h1, r⟩ := s Zf w n
    obtain ⟨T, x, rfl, hT, rfl, y⟩ := y
    obtain ⟨d', e1, rfl⟩ := enumL_get e
    obtain ⟨v', e2, rv⟩ := r.get e1
    have := y vs h1
    rw [e2] at this; cases this
    rw [Nat.zero_add]
    exact ⟨Ext.upd hT, pair_rep hT (.int _) rv⟩
  stop := fun i Zf w n h => by
    rw [enumL_length] at h
    obtain ⟨vs, h1, r⟩ := s Zf w n
    exact ⟨vs, h1, by rw [r.length]; exact h⟩
theorem zipL_get : ∀ {ds es : List D} {i : Nat} {d : D}, (zipL ds es)[i]? = some d → ∃ d' e', ds[i]? = some d' ∧ es[i]? = some e' ∧ d = .wtp [d', e']
  | [], _, _, _, e => by simp [zipL] at e
  | _ :: _, [], _, _, e => by simp [zipL] at e
  | x :: ds, y :: es, 0, d, e => by
    simp only [zipL, List.getElem?_cons_zero, Option.some.injEq] at e
    subst e; exact ⟨x, y, rfl, rfl, rfl⟩
  | x :: ds, y :: es, i + 1, d, e => by
    simp only [zipL, List.getElem?_cons_succ] at e
    obtain ⟨d', e', e1, e2, e3⟩ := zipL_get e
    exact ⟨d', e', by simpa using e1, by simpa using e2, e3⟩
theorem zipL_length : ∀ (ds es : List D), (zipL ds es).length = min ds.length es.length
  | [], es => by simp [zipL]
  | x :: ds, [] => by simp [zipL]
  | x :: ds, y :: es => by simp only [zipL, List.length_cons, zipL_length ds es]; omega
theorem wlk_zipL {a b : Addr} {ds es : List D} (s : Stays L Ze a ds true w1) (t : Stays L Ze b es true w1) : Wlk L Ze (Itz L.K a b) (zipL ds es) w1 where
  go := fun i Zf w n h => by
    rw [zipL_length] at h
    obtain ⟨vs, h1, r⟩ := s Zf w n
    obtain ⟨us, h2, q⟩ := t Zf w n
    have hl := r.length
    have hl2 := q.length
    exact ⟨vs, us, vs[i]'(by omega), us[i]'(by omega), h1, h2, List.getElem?_eq_getElem _, List.getElem?_eq_getElem _⟩
  yld := fun i d Zf w v H' n e y => by
    obtain ⟨vs, h1, r⟩ := s Zf w n
    obtain ⟨us, h2, q⟩ := t Zf w n
    obtain ⟨T, x, z, rfl, hT, rfl, y1, y2⟩ := y
    obtain ⟨d', e', e1, e2, rfl⟩ := zipL_get e
    obtain ⟨v', e3, rv⟩ := r.get e1
    obtain ⟨u', e4, ru⟩ := q.get e2
    have := y1 vs h1
    rw [e3] at this; cases this
    have := y2 us h2
    rw [e4] at this; cases this
    exact ⟨Ext.upd hT, pair_rep hT rv ru⟩
  stop := fun i Zf w n h => by
    rw [zipL_length] at h
    obtain ⟨vs, h1, r⟩ := s Zf w n
    obtain ⟨us, h2, q⟩ := t Zf w n
    exact ⟨vs, us, h1, h2, by rw [r.length, q.length]; omega⟩
theorem wlk_zipT {a b : Addr} {ds es : List D} (s : Stays L Ze a ds false w1) (t : Stays L Ze b es false w1) : Wlk L Ze (RZ.ItzT L.K a b) (zipL ds es) w1 where
  go := fun i Zf w n h => by
    rw [zipL_length] at h
    obtain ⟨vs, h1, r⟩ := s Zf w n
    obtain ⟨us, h2, q⟩ := t Zf w n
    have hl := r.length
    have hl2 := q.length
    exact ⟨vs, us, vs[i]'(by omega), us[i]'(by omega), h1, h2, List.getElem?_eq_getElem _, List.getElem?_eq_getElem _⟩
  yld := fun i d Zf w v H' n e y => by
    obtain ⟨vs, h1, r⟩ := s Zf w n
    obtain ⟨us, h2, q⟩ := t Zf w n
    obtain ⟨T, x, z, rfl, hT, rfl, y1, y2⟩ := y
    obtain ⟨d', e', e1, e2, rfl⟩ := zipL_get e
    obtain ⟨v', e3, rv⟩ := r.get e1
    obtain ⟨u', e4, ru⟩ := q.get e2
    have := y1 vs h1
    rw [e3] at this; cases this
    have := y2 us h2
    rw [e4] at this; cases this
    exact ⟨Ext.upd hT, pair_rep hT rv ru⟩
  stop := fun i Zf w n h => by
    rw [zipL_length] at h
    obtain ⟨vs, h1, r⟩ := s Zf w n
    obtain ⟨us, h2, q⟩ := t Zf w n
    exact ⟨vs, us, h1, h2, by rw [r.length, q.length]; omega⟩
end
/-! #### a list or a tuple -/
def iSeq (K : PySem.W.Frag) (tl : TE) : TI := fun σ H R => tl σ H fun x H1 => iList K (fun _ H Q => Q x H) σ H1 R ∨ iTup K (fun _ H Q => Q x H) σ H1 R
theorem pi_seq {X : Cx} {tg l : Expr} {tl : TE} (hl : PE X l tl) : PI X tg l (iSeq X.K tl) := by
  refine ⟨fun pins s σ H R I h => ?_⟩
  refine thn (hl.run pins s σ H _ I h) fun v s1 ⟨x, H1, I1, r1, q1⟩ => ?_
  rcases q1 with ⟨a, e, ⟨xs, hq⟩, q⟩ | ⟨a, e, ⟨xs, hq⟩, q⟩
  · subst e
    cases r1
    obtain ⟨its, rv, p, hz⟩ := I1.list hq
    refine wpAny_pyIter_list p.isList ?_
    refine ⟨s1.heap.objs.size, [s1.heap.objs.size], _, _, H1, rfl, I1.kept (t' := s1.toks) fun b o e => Heap.get?_push_of_some _ e, turn_list a _, ⟨_, Heap.get?_push_size _ rfl, rfl, rfl⟩, fun b hb => ?_, q⟩
    have e : b = s1.heap.objs.size := by simpa using hb
    subst e
    exact I1.fpOk (Nat.le_refl _) (I1.hok.fresh (Nat.le_refl _))
  · subst e
    cases r1
    obtain ⟨its, rv, p, hz⟩ := I1.tuple hq
    refine wpAny_pyIter_tuple (show s1.heap.IsTuple a its.toArray from p) ?_
    refine ⟨s1.heap.objs.size, [s1.heap.objs.size], _, _, H1, rfl, I1.kept (t' := s1.toks) fun b o e => Heap.get?_push_of_some _ e, turn_tuple a _, ⟨_, Heap.get?_push_size _ rfl, rfl, rfl⟩, fun b hb => ?_, q⟩
    have e : b = s1.heap.objs.size := by simpa using hb
    subst e
    exact I1.fpOk (Nat.le_refl _) (I1.hok.fresh (Nat.le_refl _))
section
variable {L : Lw} {N : List Str} {sc : Scope} {ca : Str → Bool} {W : XK} {a b c e i z tg : Expr} {es : List Expr} {pos p p1 p2 p3 : Pos} {G : List FSem} {ia ib ic ie ii iz : IE} {ies : List IE}
theorem sni_seq (ha : SndE L N sc ca W e (ev G ie)) : SndI L N sc ca W tg e (evI G (.seq ie)) := by
  obtain ⟨ta, pa, sa⟩ := ha
  refine ⟨iSeq L.K ta, fun X C => by rw [← C.eK]; exact pi_seq (pa X C), fun Ze w σ ρ R' γ δ rest fin k ok rs h hR => ?_⟩
  have h' : post L.K L.mg Ze W ((ev G ie ρ w.φ).bind fun x φ => Aft (walkX x φ) rest fin) w k := by
    unfold Aft at h ⊢
    simp only [evI] at h
    revert h
    cases ev G ie ρ w.φ <;> exact fun h => h
  refine sa Ze w σ ρ _ ok rs ((post.bind h').imp fun x w0 n0 h1 v r1 => ?_)
  obtain ⟨a, wk, w1, rfl, n1, e1, e2, lks, st, ew⟩ := walk_of n0.ok r1 h1
  unfold Aft at h1
  rw [ew] at h1
  have h2 := unl_of n0 n1 lks h1
  rw [← e1]
  obtain ⟨ds, isL, lk⟩ := wk
  obtain ⟨vs, hv, rv⟩ := st _ w1 (Fol.of (.refl n1.ok))
  cases isL with
  | true => exact .inl ⟨a, rfl, ⟨vs, hv⟩, hR _ ⟨ds, true, lk⟩ w1 (n0.trans n1) (wlk_list st) h2⟩
  | false => exact .inr ⟨a, rfl, ⟨vs, hv⟩, hR _ ⟨ds, false, lk⟩ w1 (n0.trans n1) (wlk_tup st) h2⟩
theorem sni_rng1 (ha : SndE L N sc ca W a (ev G ia)) (g : globOk sc "range" = true) (hm : bltOk L "range") (h1 : noStar a = true) : SndI L N sc ca W tg (.Call (.Name "range" p) [a] [] pos) (evI G (.rng1 ia)) := by
  obtain ⟨ta, pa, sa⟩ := ha
  refine ⟨iRng1 (tCons ta tNil), fun X C => ?_, fun Ze w σ ρ R' γ δ rest fin k ok rs h hR => ?_⟩
  · have m1 : X.mg "range" = none := by rw [C.em]; exact hm
    exact pi_range1 (gl_of C g).1 m1 (pa_cons (pa X C) pa_nil (starEach_cons h1)) (starEach_cons h1)
  · have h' : post L.K L.mg Ze W ((ev G ia ρ w.φ).bind fun x φ => Aft (match x with
      | .v (.int i) => if inRng i then R.ok ⟨rngL 0 i, true, []⟩ φ else .bad
      | _ => .bad) rest fin) w k := by
      unfold Aft at h ⊢
      simp only [evI] at h
      revert h
      cases ev G ia ρ w.φ <;> exact fun h => h
    refine sa Ze w σ ρ _ ok rs ((post.bind h').imp fun x w0 n0 h2 v r1 => ?_)
    split at h2
    · rename_i j
      split at h2
      · rename_i hj
        unfold inRng at hj
        simp only [Bool.and_eq_true, decide_eq_true_eq] at hj
        cases r1
        refine ⟨j, rfl, hj.1, hj.2, ?_⟩
        have h3 := unl_of (lk := []) n0 (.refl n0.ok) ⟨(fun _ h => nomatch h), (fun _ h => nomatch h)⟩ h2
        have hw := wlk_rng (L := L) (Ze := Ze) (w1 := w0) 0 j
        rw [Int.sub_zero] at hw
        exact hR _ ⟨rngL 0 j, true, []⟩ w0 n0 hw h3
      · exact h2.elim
    · exact h2.elim
theorem sni_rng2 (ha : SndE L N sc ca W a (ev G ia)) (hb : SndE L N sc ca W b (ev G ib)) (g : globOk sc "range" = true) (hm : bltOk L "range") (h1 : noStar a = true) (h2 : noStar b = true) : SndI L N sc ca W tg (.Call (.Name "range" p) [a, b] [] pos) (evI G (.rng2 ia ib)) := by
  obtain ⟨ta, pa, sa⟩ := ha
  obtain ⟨tb, pb, sb⟩ := hb
  refine ⟨iRng2 (tCons ta (tCons tb tNil)), fun X C => ?_, fun Ze w σ ρ R' γ δ rest fin k ok rs h hR => ?_⟩
  · have m1 : X.mg "range" = none := by rw [C.em]; exact hm
    exact pi_range2 (gl_of C g).1 m1 (pa_cons (pa X C) (pa_cons (pb X C) pa_nil (starEach_cons h2)) (starEach_cons h1)) (by rw [starEach_cons h1, starEach_cons h2]; rfl) (starEach_cons h2)
  · have h' : post L.K L.mg Ze W ((ev G ia ρ w.φ).bind fun x φ1 => (ev G ib ρ φ1).bind fun y φ => Aft (match x, y with
      | .v (.int i), .v (.int j) => if inRng i && inRng j then R.ok ⟨rngL i j, true, []⟩ φ else .bad
      | _, _ => .bad) rest fin) w k := by
      unfold Aft at h ⊢
      simp only [evI] at h
      revert h
      cases ev G ia ρ w.φ with
      | bad => exact fun h => h
      | exc c d φ => exact fun h => h
      | ok x φ1 =>
        simp only [R.bind_ok]
        cases ev G ib ρ φ1 <;> exact fun h => h
    refine run2 sa sb (R2' := fun v u H => ∃ i j : Int, [v, u] = [.int i, .int j] ∧ (-(2 ^ 62) ≤ i ∧ i < 2 ^ 62 ∧ -(2 ^ 62) ≤ j ∧ j < 2 ^ 62) ∧ R' (Itr i (j - i).toNat) H) ok rs h' fun x y v u w0 n0 r1 r2 h2 => ?_
    split at h2
    · rename_i i j
      split at h2
      · rename_i hj
        unfold inRng at hj
        simp only [Bool.and_eq_true, decide_eq_true_eq] at hj
        cases r1
        cases r2
        refine ⟨i, j, rfl, ⟨hj.1.1, hj.1.2, hj.2.1, hj.2.2⟩, ?_⟩
        have h3 := unl_of (lk := []) n0 (.refl n0.ok) ⟨(fun _ h => nomatch h), (fun _ h => nomatch h)⟩ h2
        exact hR _ ⟨rngL i j, true, []⟩ w0 n0 (wlk_rng i j) h3
      · exact h2.elim
    · exact h2.elim
theorem sni_enum {k2 : Nat} (ha : SndE L N sc ca W e (ev G ie)) (g : globOk sc "enumerate" = true) (hm : bltOk L "enumerate") (h1 : noStar e = true) : SndI L N sc ca W (.Tuple es k2 p2) (.Call (.Name "enumerate" p) [e] [] pos) (evI G (.enum ie)) := by
  obtain ⟨ta, pa, sa⟩ := ha
  refine ⟨iEnumA L.K (tCons ta tNil), fun X C => ?_, fun Ze w σ ρ R' γ δ rest fin k ok rs h hR => ?_⟩
  · have m1 : X.mg "enumerate" = none := by rw [C.em]; exact hm
    rw [← C.eK]
    exact pi_enumA (gl_of C g).1 m1 (pa_cons (pa X C) pa_nil (starEach_cons h1)) (starEach_cons h1)
  have h' : post L.K L.mg Ze W ((ev G ie ρ w.φ).bind fun x φ => (walkX x φ).bind fun wk φ2 => Aft (R.ok ⟨enumL wk.ds, true, wk.lk⟩ φ2) rest fin) w k := by
    unfold Aft at h ⊢
    simp only [evI] at h
    revert h
    cases ev G ie ρ w.φ with
    | bad => exact fun h => h
    | exc c d φ => exact fun h => h
    | ok x φ1 =>
      simp only [R.bind_ok]
      cases walkX x φ1 <;> exact fun h => h
  refine sa Ze w σ ρ _ ok rs ((post.bind h').imp fun x w0 n0 h1 v r1 => ?_)
  obtain ⟨a, wk, w1, rfl, n1, e1, e2, lks, st, ew⟩ := walk_of n0.ok r1 h1
  rw [ew] at h1
  simp only [R.bind_ok] at h1
  obtain ⟨ds, isL, lk⟩ := wk
  unfold Aft at h1
  simp only [R.bind_ok] at h1
  have h2 := unl_of n0 n1 lks h1
  obtain ⟨vs, hv, rv⟩ := st _ w1 (Fol.of (.refl n1.ok))
  show ∃ a xs, _
  rw [← e1]
  cases isL with
  | false => exact ⟨a, vs, rfl, .inr ⟨hv, hR _ ⟨enumL ds, true, lk⟩ w1 (n0.trans n1) (wlk_enumT st) h2⟩⟩
  | true => exact ⟨a, vs, rfl, .inl ⟨hv, hR _ ⟨enumL ds, true, lk⟩ w1 (n0.trans n1) (wlk_enum st) h2⟩⟩
theorem sni_zip {k2 : Nat} (ha : SndE L N sc ca W a (ev G ia)) (hb : SndE L N sc ca W b (ev G ib)) (g : globOk sc "zip" = true) (hm : bltOk L "zip") (h1 : noStar a = true) (h2 : noStar b = true) :
    SndI L N sc ca W (.Tuple es k2 p2) (.Call (.Name "zip" p) [a, b] [] pos) (evI G (.zip ia ib)) := by
  obtain ⟨ta, pa, sa⟩ := ha
  obtain ⟨tb, pb, sb⟩ := hb
  refine ⟨RZ.iZipA L.K (tCons ta (tCons tb tNil)), fun X C => ?_, fun Ze w σ ρ R' γ δ rest fin k ok rs h hR => ?_⟩
  · have m1 : X.mg "zip" = none := by rw [C.em]; exact hm
    rw [← C.eK]
    exact RZ.pi_zipA (gl_of C g).1 m1 (pa_cons (pa X C) (pa_cons (pb X C) pa_nil (starEach_cons h2)) (starEach_cons h1)) (starEach_cons h1) (by rw [starEach_cons h2]; rfl)
  have h' : post L.K L.mg Ze W ((ev G ia ρ w.φ).bind fun x φ1 => (ev G ib ρ φ1).bind fun y φ => (walkX x φ).bind fun wk φ3 => (walkX y φ3).bind fun wl φ4 => Aft (if wk.isL = wl.isL then R.ok ⟨zipL wk.ds wl.ds, true, wk.lk ++ wl.lk⟩ φ4 else .bad) rest fin) w k := by
    unfold Aft at h ⊢
    simp only [evI] at h
    revert h
    cases ev G ia ρ w.φ with
    | bad => exact fun h => h
    | exc c d φ => exact fun h => h
    | ok x φ1 =>
      simp only [R.bind_ok]
      cases ev G ib ρ φ1 with
      | bad => exact fun h => h
      | exc c d φ => exact fun h => h
      | ok y φ2 =>
        simp only [R.bind_ok]
        cases walkX x φ2 with
        | bad => exact fun h => h
        | exc c d φ => exact fun h => h
        | ok wk φ3 =>
          simp only [R.bind_ok]
          cases walkX y φ3 <;> exact fun h => h
  refine run2 sa sb (R2' := fun v u H => ∃ a b xs ys, [v, u] = [.ref a, .ref b] ∧ ((SqL L.K H a xs ∧ SqL L.K H b ys ∧ R' (Itz L.K a b) H) ∨ (SqT L.K H a xs ∧ SqT L.K H b ys ∧ R' (RZ.ItzT L.K a b) H))) ok rs h' fun x y v u w0 n0 r1 r2 h2 => ?_
  obtain ⟨a, wk, w1, rfl, n1, e1, e2, lks, st, ew⟩ := walk_of n0.ok r1 h2
  rw [ew] at h2
  simp only [R.bind_ok] at h2
  have h2b : post L.K L.mg Ze W ((walkX y w1.φ).bind fun wl φ4 => Aft (if wk.isL = wl.isL then R.ok ⟨zipL wk.ds wl.ds, true, wk.lk ++ wl.lk⟩ φ4 else .bad) rest fin) w1 (fun _ _ => True) := by
    revert h2
    generalize ((walkX y w1.φ).bind fun wl φ4 => Aft (if wk.isL = wl.isL then R.ok (⟨zipL wk.ds wl.ds, true, wk.lk ++ wl.lk⟩ : Wk) φ4 else .bad) rest fin) = r
    intro h2
    cases r with
    | bad => exact h2
    | ok _ _ => exact fun _ _ _ => True.intro
    | exc c d φ => exact fun w' cls a e n q => h2 w' cls a e (n1.trans n) q
  obtain ⟨b, wl, w2, rfl, n2, e3, e4, lks2, st2, ew2⟩ := walk_of n1.ok (r2.nx n0.ok n1.st) h2b
  rw [ew2] at h2
  simp only [R.bind_ok] at h2
  obtain ⟨ds, isL, lk⟩ := wk
  obtain ⟨es', isL2, lk2⟩ := wl
  by_cases hk : isL = isL2
  · subst hk
    unfold Aft at h2
    simp only [if_true, R.bind_ok] at h2
    have lks3 : Lks (lk ++ lk2) w0 w2 := by
      refine ⟨fun p hp => ?_, fun p hp => ?_⟩
      · rcases List.mem_append.mp hp with hp | hp
        · exact lks.a p hp
        · have q := lks2.a p hp
          by_cases hm : ∃ p' ∈ lk, p'.1 = p.1
          · obtain ⟨p', h1, h2⟩ := hm
            have := lks.b p' h1
            rw [h2, q] at this; cases this
          · -- not among the locked ones: unchanged
            cases x with
            | v d =>
              simp only [walkX] at ew
              cases qd : d.seqs with
              | none => rw [qd] at ew; cases ew
              | some pp =>
                rw [qd] at ew
                simp only [Option.map_some, R.ofOpt_some, R.ok.injEq] at ew
                rw [ew.2]; exact q
            | h j =>
              simp only [walkX] at ew
              cases qj : w0.φ[j]? with
              | none => rw [qj] at ew; cases ew
              | some o =>
                rw [qj] at ew
                cases o with
                | lst ds' =>
                  simp only [R.ok.injEq, Wk.mk.injEq] at ew
                  obtain ⟨⟨_, _, rfl⟩, ew⟩ := ew
                  rw [← ew] at q
                  rw [List.getElem?_set_ne (fun z => hm ⟨_, List.mem_singleton.mpr rfl, z⟩)] at q
                  exact q
                | lck ds' => simp only [R.ok.injEq] at ew; rw [ew.2]; exact q
                | frz d =>
                  simp only at ew
                  cases qd : d.seqs with
                  | none => rw [qd] at ew; cases ew
                  | some pp =>
                    rw [qd] at ew
                    simp only [Option.map_some, R.ofOpt_some, R.ok.injEq] at ew
                    rw [ew.2]; exact q
                | dct ks ds' => cases ew
                | ins c ns ds' => cases ew
      · rcases List.mem_append.mp hp with hp | hp
        · exact n2.st.lck _ _ (lks.b p hp)
        · exact lks2.b p hp
    have h3 := unl_of n0 (n1.trans n2) lks3 h2
    obtain ⟨vs, hv, rv⟩ := (st.nx n2) _ w2 (Fol.of (.refl n2.ok))
    obtain ⟨us, hu, ru⟩ := st2 _ w2 (Fol.of (.refl n2.ok))
    rw [← e1, ← e3]
    cases isL with
    | true => exact ⟨a, b, vs, us, rfl, .inl ⟨hv, hu, hR _ ⟨zipL ds es', true, lk ++ lk2⟩ w2 (n0.trans (n1.trans n2)) (wlk_zipL (st.nx n2) st2) h3⟩⟩
    | false => exact ⟨a, b, vs, us, rfl, .inr ⟨hv, hu, hR _ ⟨zipL ds es', true, lk ++ lk2⟩ w2 (n0.trans (n1.trans n2)) (wlk_zipT (st.nx n2) st2) h3⟩⟩
  · unfold Aft at h2
    simp only [hk, if_false] at h2
    exact h2.elim
end
end Ev
/-! Part L: targets, statements. -/
namespace Ev
open PySem PySem.Spec PyProof.Rows L2
mutual
def Tg.slots : Tg → List Nat
  | .nm i => [i]
  | .tp ts => Tg.slotsL ts
def Tg.slotsL : List Tg → List Nat
  | [] => []
  | t :: ts => Tg.slots t ++ Tg.slotsL ts
end
/-- the same but for the slots is -/
def SameB (is : List Nat) (σ σ' : SS) : Prop := σ'.length = σ.length ∧ ∀ i : Nat, i ∉ is → σ'[i]? = σ[i]?
theorem SameB.refl {is : List Nat} {σ : SS} : SameB is σ σ := ⟨rfl, fun _ _ => rfl⟩
theorem SameB.trans {is js : List Nat} {σ σ' σ'' : SS} (h : SameB is σ σ') (h' : SameB js σ' σ'') : SameB (is ++ js) σ σ'' :=
  ⟨h'.1.trans h.1, fun i hi => (h'.2 i fun z => hi (List.mem_append_right _ z)).trans (h.2 i fun z => hi (List.mem_append_left _ z))⟩
theorem wipe_get {σ : SS} {i : Nat} : ∀ {vs : List Nat}, (wipe σ vs)[i]? = if i ∈ vs then (σ[i]?).map fun _ => none else σ[i]?
  | [] => by simp [wipe]
  | v :: vs => by
    have ih := wipe_get (σ := σ) (i := i) (vs := vs)
    show ((wipe σ vs).set v none)[i]? = _
    by_cases h : i = v
    · subst h
      rw [if_pos List.mem_cons_self]
      by_cases hl : i < σ.length
      · rw [List.getElem?_set_self (by rw [wipe_length]; exact hl), List.getElem?_eq_getElem hl]; rfl
      · rw [List.getElem?_eq_none (by rw [List.length_set, wipe_length]; omega), List.getElem?_eq_none (by omega)]; rfl
    · rw [List.getElem?_set_ne (Ne.symm h), ih]
      by_cases hm : i ∈ vs
      · rw [if_pos hm, if_pos (List.mem_cons_of_mem _ hm)]
      · rw [if_neg hm, if_neg (fun z => by rcases List.mem_cons.mp z with z | z; exact h z; exact hm z)]
theorem wipe_same {σ σ' : SS} {is vs : List Nat} (h : SameB is (wipe σ vs) σ') (hs : ∀ i ∈ is, i ∈ vs) : wipe σ' vs = wipe σ vs := by
  apply List.ext_getElem?
  intro i
  rw [wipe_get, wipe_get]
  by_cases hi : i ∈ vs
  · rw [if_pos hi, if_pos hi]
    have hl := h.1
    rw [wipe_length] at hl
    by_cases hz : i < σ.length
    · rw [List.getElem?_eq_getElem hz, List.getElem?_eq_getElem (by rw [hl]; exact hz)]; rfl
    · rw [List.getElem?_eq_none (by omega), List.getElem?_eq_none (by omega)]
  · rw [if_neg hi, if_neg hi, h.2 i fun z => hi (hs i z), wipe_get, if_neg hi]
section
variable {L : Lw} {N : List Str} {sc : Scope} {ca : Str → Bool} {W : XK} {Ze : Addr → Prop} {w w0 w1 w2 w' : Wd} {σ : SS} {ρ ρ' : List Sl}
theorem RepS.wipe (h : RepS L.K L.mg Ze w σ ρ) : ∀ vs : List Nat, RepS L.K L.mg Ze w (L2.wipe σ vs) (wipeR ρ vs)
  | [] => h
  | v :: vs => (RepS.wipe h vs).wipe1 v
def SndG (L : Lw) (N : List Str) (sc : Scope) (ca : Str → Bool) (W : XK) (tg : Expr) (t : Tg) : Prop :=
  ∃ g : TG, (∀ X, Ctx L N sc ca W X → PG X tg g) ∧ ∀ (Ze : Addr → Prop) w σ ρ ρ' v d Q, Ok L.K L.mg Ze w → RepS L.K L.mg Ze w σ ρ → Rep L.K L.mg w.H (Z Ze w) v d → bindT t d ρ = some ρ' →
    (∀ σ', RepS L.K L.mg Ze w σ' ρ' → SameB t.slots σ σ' → Q σ' w.H) → g v σ w.H Q
def SndGs (L : Lw) (N : List Str) (sc : Scope) (ca : Str → Bool) (W : XK) (tgs : List Expr) (ts : List Tg) : Prop :=
  ∃ g : TGs, (∀ X, Ctx L N sc ca W X → PGs X tgs g) ∧ ∀ (Ze : Addr → Prop) w σ ρ ρ' vs ds Q, Ok L.K L.mg Ze w → RepS L.K L.mg Ze w σ ρ → Reps L.K L.mg w.H (Z Ze w) vs ds → bindTs ts ds ρ = some ρ' →
    (∀ σ', RepS L.K L.mg Ze w σ' ρ' → SameB (Tg.slotsL ts) σ σ' → Q σ' w.H) → g vs σ w.H Q
def tgtOk (N : List Str) (sc : Scope) (ca : Str → Bool) (i : Nat) (x : Str) : Bool :=
  decide (N[i]? = some x) && (match sc.names.lookup x with | some .local => true | some .cell => ca x | _ => false)
theorem tgt_of {X : Cx} {i : Nat} {x : Str} (C : Ctx L N sc ca W X) (h : tgtOk N sc ca i x = true) : X.N[i]? = some x ∧ L2.Loc X.env.scope x ∧ (X.fn x = true ∨ X.env.scope.names.lookup x = some .local) := by
  unfold tgtOk at h
  simp only [Bool.and_eq_true, decide_eq_true_eq] at h
  obtain ⟨h1, h2⟩ := h
  refine ⟨by rw [C.eN]; exact h1, ?_⟩
  unfold L2.Loc
  rw [C.es]
  revert h2
  cases q : sc.names.lookup x with
  | none => intro h; cases h
  | some k =>
    cases k <;> intro h <;> first | exact ⟨.inl rfl, .inr rfl⟩ | exact ⟨.inr rfl, .inl (C.fn x h)⟩ | cases h
theorem Ctx.nodup {X : Cx} (C : Ctx L N sc ca W X) : X.N.Nodup := by rw [C.eN]; exact C.nd
theorem sng_nm {i : Nat} {x : Str} {pos : Pos} (h : tgtOk N sc ca i x = true) : SndG L N sc ca W (.Name x pos) (.nm i) := by
  refine ⟨gName i, fun X C => ?_, fun Ze w σ ρ ρ' v d Q ok rs r e q => ?_⟩
  · obtain ⟨h1, h2, h3⟩ := tgt_of C h
    exact pg_name C.nodup h1 h2 h3
  · simp only [bindT] at e
    split at e
    · cases e
      refine q _ (rs.set i (x := .v d) r) ⟨by simp, fun j hj => ?_⟩
      exact List.getElem?_set_ne fun z => hj (by simp [Tg.slots, z])
    · cases e
theorem assignEach_cons {e : Expr} {es : List Expr} {env : Env} (h : noStar e = true) : assignEach (e :: es) env = (false, assign e env) :: assignEach es env := by
  cases e <;> first | rfl | cases h
theorem assignEach_all {es : List Expr} {env : Env} (h : es.all noStar = true) : (assignEach es env).length = es.length ∧ (assignEach es env).findIdx? (·.1) = none := by
  induction es with
  | nil => exact ⟨rfl, rfl⟩
  | cons e es ih =>
    rw [List.all_cons, Bool.and_eq_true] at h
    rw [assignEach_cons h.1]
    obtain ⟨h1, h2⟩ := ih h.2
    refine ⟨by simp [h1], ?_⟩
    rw [List.findIdx?_cons]
    simp [h2]
theorem sngs_nil : SndGs L N sc ca W [] [] := ⟨gNil, fun X C => pgs_nil, fun Ze w σ ρ ρ' vs ds Q ok rs r e q => by
  cases r with
  | nil => simp only [bindTs] at e; cases e; exact ⟨rfl, q _ rs .refl⟩
  | cons _ _ => simp only [bindTs] at e; cases e⟩
theorem sngs_cons {tg : Expr} {tgs : List Expr} {t : Tg} {ts : List Tg} (h1 : SndG L N sc ca W tg t) (h2 : SndGs L N sc ca W tgs ts) (hn : noStar tg = true) : SndGs L N sc ca W (tg :: tgs) (t :: ts) := by
  obtain ⟨g, p, s⟩ := h1
  obtain ⟨gs, ps, ss⟩ := h2
  refine ⟨gCons g gs, fun X C => pgs_cons (p X C) (ps X C) (by rw [assignEach_cons hn]; rfl), fun Ze w σ ρ ρ' vs ds Q ok rs r e q => ?_⟩
  cases r with
  | nil => simp only [bindTs] at e; cases e
  | cons r rr =>
    rename_i v d vs ds
    simp only [bindTs] at e
    cases e1 : bindT t d ρ with
    | none => rw [e1] at e; cases e
    | some ρ1 =>
      rw [e1] at e
      refine ⟨_, _, rfl, s Ze w σ ρ ρ1 _ _ _ ok rs r e1 fun σ1 rs1 b1 => ?_⟩
      exact ss Ze w σ1 ρ1 ρ' _ _ Q ok rs1 rr e fun σ2 rs2 b2 => q σ2 rs2 (b1.trans b2)
theorem bindTs_length : ∀ {ts : List Tg} {ds : List D} {ρ ρ' : List Sl}, bindTs ts ds ρ = some ρ' → ts.length = ds.length
  | [], [], _, _, _ => rfl
  | [], _ :: _, _, _, e => by simp only [bindTs] at e; cases e
  | _ :: _, [], _, _, e => by simp only [bindTs] at e; cases e
  | t :: ts, d :: ds, ρ, ρ', e => by
    simp only [bindTs] at e
    cases e1 : bindT t d ρ with
    | none => rw [e1] at e; cases e
    | some ρ1 =>
      rw [e1] at e
      simp [bindTs_length e]
theorem sng_tp {tgs : List Expr} {ts : List Tg} {k : Nat} {pos : Pos} (h : SndGs L N sc ca W tgs ts) (hn : tgs.all noStar = true) (hl : tgs.length = ts.length) : SndG L N sc ca W (.Tuple tgs k pos) (.tp ts) := by
  obtain ⟨g, p, s⟩ := h
  refine ⟨gTup L.K tgs.length g, fun X C => ?_, fun Ze w σ ρ ρ' v d Q ok rs r e q => ?_⟩
  · rw [← C.eK]
    obtain ⟨h1, h2⟩ := assignEach_all (env := X.env) hn
    exact pg_tup C.calm (p X C) h1 h2
  · have go : ∀ {a : Addr} {vs : List V} {ds : List D}, v = .ref a → SqT L.K w.H a vs → Reps L.K L.mg w.H (Z Ze w) vs ds → (if ts.length = ds.length then bindTs ts ds ρ else none) = some ρ' → gTup L.K tgs.length g v σ w.H Q := fun {a vs ds} ev hs rr e => by
      split at e
      · rename_i hl2
        exact ⟨a, vs, ev, hs, by rw [rr.length, hl, hl2], s Ze w σ ρ ρ' vs ds Q ok rs rr e fun σ' rs' b => q σ' rs' b⟩
      · cases e
    cases r with
    | tup h rr => simp only [bindT] at e; exact go rfl h.sqT rr e
    | wtp h rr => simp only [bindT] at e; exact go rfl h rr e
    | _ => simp only [bindT] at e; cases e
/-! ### statements -/
def kOut (L : Lw) (Ze : Addr → Prop) (D : Ends) : Out → Wd → Prop
  | .nx ρ', w' => ∀ σ', RepS L.K L.mg Ze w' σ' ρ' → D.nx σ' w'.H
  | .rt x, w' => ∀ v, RepX L.K L.mg Ze w' v x → D.rt v w'.H
abbrev EvS := List Sl → List O → R Out
def SoS (L : Lw) (W : XK) (t : TS) (f : EvS) : Prop := ∀ (Ze : Addr → Prop) w σ ρ D, Ok L.K L.mg Ze w → RepS L.K L.mg Ze w σ ρ → post L.K L.mg Ze W (f ρ w.φ) w (kOut L Ze D) → t D σ w.H
def SndS (L : Lw) (N : List Str) (sc : Scope) (ca : Str → Bool) (W : XK) (st : Stmt) (f : EvS) : Prop := ∃ t, (∀ X, Ctx L N sc ca W X → PS X st t) ∧ SoS L W t f
def SndSs (L : Lw) (N : List Str) (sc : Scope) (ca : Str → Bool) (W : XK) (sts : List Stmt) (f : EvS) : Prop := ∃ t, (∀ X, Ctx L N sc ca W X → PSs X sts t) ∧ SoS L W t f
variable {a b c e i z tg : Expr} {es : List Expr} {pos p p1 p2 p3 : Pos} {G : List FSem} {ia ib ic ie ii iz : IE} {ies : List IE} {st : Stmt} {sts : List Stmt}
theorem snss_nil : SndSs L N sc ca W [] (exs G []) := ⟨tNext, fun X C => pss_nil, fun Ze w σ ρ D ok rs h => by simp only [exs] at h; exact post.here ok h σ rs⟩
theorem snss_cons {s : IS} {ss : List IS} (h1 : SndS L N sc ca W st (ex1 G s)) (h2 : SndSs L N sc ca W sts (exs G ss)) : SndSs L N sc ca W (st :: sts) (exs G (s :: ss)) := by
  obtain ⟨t, p, so⟩ := h1
  obtain ⟨u, q, su⟩ := h2
  refine ⟨tSeq t u, fun X C => pss_cons (p X C) (q X C), fun Ze w σ ρ D ok rs h => ?_⟩
  simp only [exs] at h
  refine so Ze w σ ρ _ ok rs ((post.bind h).imp fun o w1 n1 h1 => ?_)
  cases o with
  | nx ρ1 => exact fun σ1 rs1 => su Ze w1 σ1 ρ1 D n1.ok rs1 h1
  | rt x => exact fun v r => post.here n1.ok h1 v r
theorem sns_never : SndS L N sc ca W st (ex1 G .never) := ⟨tNever, fun X C => ps_never, fun Ze w σ ρ D ok rs h => by simp only [ex1] at h; exact h.elim⟩
def notComp : Expr → Bool
  | .ListComp _ _ _ _ => false
  | .SetComp _ _ _ _ => false
  | .DictComp _ _ _ _ _ => false
  | _ => true
theorem sw_false {t : Option Expr} {l : Nat} {env : Env} (h : notComp e = true) : swapsWith e t l env = pure false := by
  cases e <;> first | rfl | cases h
theorem sns_ex (ha : SndE L N sc ca W e (ev G ie)) (h : notComp e = true) : SndS L N sc ca W (.Expr e pos) (ex1 G (.ex ie)) := by
  obtain ⟨ta, pa, sa⟩ := ha
  refine ⟨tDrop ta, fun X C => ps_expr (pa X C) (sw_false h), fun Ze w σ ρ D ok rs h => ?_⟩
  simp only [ex1] at h
  exact sa Ze w σ ρ _ ok rs ((post.bind h).imp fun x w1 n1 h1 v r1 => post.here n1.ok h1 σ (rs.nx ok n1.st))
theorem sns_ret (ha : SndE L N sc ca W e (ev G ie)) : SndS L N sc ca W (.Return (some e) pos) (ex1 G (.ret ie)) := by
  obtain ⟨ta, pa, sa⟩ := ha
  refine ⟨tRet ta, fun X C => ps_ret (pa X C), fun Ze w σ ρ D ok rs h => ?_⟩
  simp only [ex1] at h
  exact sa Ze w σ ρ _ ok rs ((post.bind h).imp fun x w1 n1 h1 v r1 => post.here n1.ok h1 v r1)
theorem sns_ret0 : SndS L N sc ca W (.Return none pos) (ex1 G .ret0) := ⟨tRetN, fun X C => ps_retN, fun Ze w σ ρ D ok rs h => by simp only [ex1] at h; exact post.here ok h _ .non⟩
theorem sns_if {A B : List Stmt} {sa sb : List IS} (hc : SndT L N sc ca W c (evT G ic)) (ha : SndSs L N sc ca W A (exs G sa)) (hb : SndSs L N sc ca W B (exs G sb)) : SndS L N sc ca W (.If c A B pos) (ex1 G (.ite ic sa sb)) := by
  obtain ⟨tc, pc, so⟩ := hc
  obtain ⟨ta, pa, sa'⟩ := ha
  obtain ⟨tb, pb, sb'⟩ := hb
  refine ⟨tIfS tc ta tb, fun X C => ps_if (pc X C) (pa X C) (pb X C), fun Ze w σ ρ D ok rs h => ?_⟩
  simp only [ex1] at h
  refine so Ze w σ ρ _ ok rs ((post.bind h).imp fun t w1 n1 h1 => ?_)
  cases t with
  | true => exact sa' Ze w1 σ ρ D n1.ok (rs.nx ok n1.st) h1
  | false => exact sb' Ze w1 σ ρ D n1.ok (rs.nx ok n1.st) h1
/-- name = value -/
theorem asg_nm {i : Nat} {ta : TE} (sa : SoE L W ta (ev G ie)) (hi : i < N.length) : SoS L W (tAsg ta (gName i)) (ex1 G (.asg (.nm i) ie)) := by
  intro Ze w σ ρ D ok rs h
  simp only [ex1] at h
  refine sa Ze w σ ρ _ ok rs ((post.bind h).imp fun x w1 n1 h1 v r1 => ?_)
  split at h1
  · exact post.here n1.ok h1 _ ((rs.nx ok n1.st).set i r1)
  · exact h1.elim
theorem sns_set {i : Nat} {x : Str} (ha : SndE L N sc ca W e (ev G ie)) (hc : notComp e = true) (h : tgtOk N sc ca i x = true) : SndS L N sc ca W (.Assign [.Name x p] e pos) (ex1 G (.asg (.nm i) ie)) := by
  obtain ⟨ta, pa, sa⟩ := ha
  refine ⟨tAsg ta (gName i), fun X C => ?_, asg_nm (N := N) sa ?_⟩
  · obtain ⟨h1, h2, h3⟩ := tgt_of C h
    exact ps_set C.nodup h1 h2 (pa X C) (sw_false hc) h3
  · unfold tgtOk at h
    simp only [Bool.and_eq_true, decide_eq_true_eq] at h
    exact (List.getElem?_eq_some_iff.mp h.1).1
/-- (a, b, ..) = value -/
theorem sns_tup {tgs : List Expr} {ts : List Tg} {k : Nat} (ha : SndE L N sc ca W e (ev G ie)) (hg : SndG L N sc ca W (.Tuple tgs k p) (.tp ts)) (hc : notComp e = true) (hw : ∀ X, Ctx L N sc ca W X → swappedStores [.Tuple tgs k p] e X.env = pure none) :
    SndS L N sc ca W (.Assign [.Tuple tgs k p] e pos) (ex1 G (.asg (.tp ts) ie)) := by
  obtain ⟨ta, pa, sa⟩ := ha
  obtain ⟨g, pg, sg⟩ := hg
  refine ⟨tAsg ta g, fun X C => ps_asg (pa X C) (pg X C) (by unfold swapsWithSole; exact sw_false hc) (hw X C) rfl, fun Ze w σ ρ D ok rs h => ?_⟩
  simp only [ex1] at h
  refine sa Ze w σ ρ _ ok rs ((post.bind h).imp fun x w1 n1 h1 v r1 => ?_)
  obtain ⟨d, w2, n2, e2, r2, h2⟩ := frzX_post n1.ok r1 (post.bind h1)
  cases q : bindT (.tp ts) d ρ with
  | none => rw [q] at h2; exact h2.elim
  | some ρ' =>
    rw [q] at h2
    have rs2 := (rs.nx ok n1.st).nx n1.ok n2.st
    rw [← e2]
    exact sg Ze w2 σ ρ ρ' v d D.nx n2.ok rs2 r2 q fun σ' rs' _ => post.here n2.ok h2 σ' rs'
end
end Ev
/-! Part M: stores, appends, parallel assignments, loops. -/
namespace Ev
open PySem PySem.Spec PyProof.Rows L2
section
variable {L : Lw} {N : List Str} {sc : Scope} {ca : Str → Bool} {W : XK} {Ze : Addr → Prop} {w w0 w1 w2 w' : Wd} {σ : SS} {ρ ρ' : List Sl}
variable {a b c e i z tg : Expr} {es : List Expr} {pos p p1 p2 p3 p4 apos cpos : Pos} {G : List FSem} {ia ib ic ie ii iz : IE} {ies : List IE} {st : Stmt} {sts : List Stmt}
/-- a list's content turns -/
theorem lst_turn {j : Nat} {a : Addr} {ds ds' : List D} {vs vs' : List V} (ok : Ok L.K L.mg Ze w) (ea : w.α[j]? = some a) (eo : w.φ[j]? = some (.lst ds)) (eh : w.H a = some (.lst vs)) (r : Reps L.K L.mg w.H (Z Ze w) vs' ds') :
    Nx L.K L.mg Ze w ⟨w.α, w.φ.set j (.lst ds'), upd w.H a (.lst vs')⟩ := by
  have hk : ∀ b x, b ≠ a → w.H b = some x → upd w.H a (.lst vs') b = some x := fun b x hb e => by rw [upd_ne hb]; exact e
  have ke := keeps_set (o' := .lst ds') (H' := upd w.H a (.lst vs')) ok ea eo rfl hk
  exact nx_set ok ea eo rfl (fun _ e => nomatch e) hk ⟨_, upd_same⟩ ⟨vs', upd_same, r.keeps ke⟩
theorem slot_h {j i : Nat} (rs : RepS L.K L.mg Ze w σ ρ) (e : ρ[i]? = some (.h j)) : ∃ a, w.α[j]? = some a ∧ σ[i]? = some (some (.ref a)) := by
  obtain ⟨v, h1, a, h2, h3⟩ := rs.get (x := .h j) e
  subst h3
  exact ⟨a, h2, h1⟩
theorem adr_nx {j : Nat} {a : Addr} (n : Step w w') (e : w.α[j]? = some a) : w'.α[j]? = some a := by
  obtain ⟨β, eβ, _⟩ := n.pre
  rw [eβ, List.getElem?_append_left (List.getElem?_eq_some_iff.mp e).1]; exact e
theorem few_of {env : Env} {es : List Expr} (h : es.all noStar = true) (hl : es.length < 30) :
    ((backTo cpos (starEach es env)).all (fun x => !x.1) && (backToKw cpos (keywordEach [] env)).all (fun x => x.1.isSome)
      && decide (es.length + ([] : List Keyword).length + (if ([] : List Keyword).isEmpty then 0 else 1) < 30)) = true := by
  have h1 : (backTo cpos (starEach es env)).all (fun x => !x.1) = true := by
    rw [List.all_eq_true]
    intro x hx
    have := backTo_any (env := env) (pos := cpos) h
    rw [List.any_eq_false] at this
    simpa using this x hx
  have h2 : (backToKw cpos (keywordEach [] env)).all (fun x => x.1.isSome) = true := rfl
  rw [h1, h2]
  simp
  exact hl
/-- name.append(e) -/
theorem sns_app {i : Nat} {x : Str} (ha : SndE L N sc ca W e (ev G ie)) (hv : nameOk N sc i x = true) (hs : noStar e = true) (hl : (apos.endLine == cpos.line) = true) :
    SndS L N sc ca W (.Expr (.Call (.Attribute (.Name x p) "append" apos) [e] [] cpos) pos) (ex1 G (.app i ie)) := by
  obtain ⟨ta, pa, sa⟩ := ha
  have hn : SndE L N sc ca W (.Name x p) (ev G (.slot i)) := snd_slot hv G
  refine ⟨tDrop (tBM L.K "list" rAppend (tVar i) (tCons ta tNil)), fun X C => ?_, fun Ze w σ ρ D ok rs h => ?_⟩
  · have hs1 : starEach [e] X.env = (false, eval e X.env) :: starEach [] X.env := starEach_cons hs
    have hvis : PE X (.Name x p) (tVar i) := by
      unfold nameOk at hv
      simp only [Bool.and_eq_true, decide_eq_true_eq, Bool.not_eq_true'] at hv
      obtain ⟨⟨⟨h1, h2⟩, h3⟩, h4⟩ := hv
      refine pe_var (by rw [C.eN]; exact h1) ?_ h3 h4
      unfold Vis
      rw [C.es]
      revert h2
      cases sc.names.lookup x with
      | none => intro h; cases h
      | some k => cases k <;> intro h <;> first | exact .inl rfl | exact .inr (.inl rfl) | exact .inr (.inr rfl) | cases h
    rw [← C.eK]
    exact ps_expr (pe_bm F.plainAttrs_list F.slot_list_append F.type_list_append (fun pins s σ H x xs v us Q I rx rv h => mt_append pins s σ H x xs v us Q I rx rv h) hvis (pa_cons (pa X C) pa_nil hs1) rfl
      (few_of (by simp [hs]) (by simp)) hl hs1 rfl) (sw_false rfl)
  · simp only [ex1] at h
    cases q : ρ[i]? with
    | none => rw [q] at h; exact h.elim
    | some s =>
      cases s with
      | u => rw [q] at h; exact h.elim
      | v d => rw [q] at h; exact h.elim
      | h j =>
        rw [q] at h
        obtain ⟨a, ea, es⟩ := slot_h rs q
        simp only at h
        cases q1 : w.φ[j]? with
        | none => rw [q1] at h; exact h.elim
        | some o =>
          cases o with
          | lst ds0 =>
            rw [q1] at h
            obtain ⟨vs0, hv0, _⟩ := ok.store j a _ ea q1
            refine ⟨.ref a, es, .inl ⟨rfl, vs0, SqL.of hv0⟩, ?_⟩
            refine sa Ze w σ ρ _ ok rs ((post.bind h).imp fun x w1 n1 h1 v r1 => ?_)
            obtain ⟨d, w2, n2, e2, r2, h2⟩ := frzX_post n1.ok r1 (post.bind h1)
            cases q2 : w2.φ[j]? with
            | none => rw [q2] at h2; exact h2.elim
            | some o =>
              cases o with
              | lst ds =>
                rw [q2] at h2
                have ea2 := adr_nx (n1.trans n2).st ea
                obtain ⟨vs, hv, rv⟩ := n2.ok.store j a _ ea2 q2
                simp only at h2
                split at h2
                · rename_i hz
                  show rAppend (.ref a) [v] w1.H (fun x H1 => D.nx σ H1)
                  rw [← e2]
                  refine ⟨a, vs, v, rfl, rfl, hv, by rw [rv.length]; exact hz, ?_⟩
                  have n3 := lst_turn n2.ok ea2 q2 hv (rv.append (.cons r2 .nil))
                  exact h2 _ rfl n3 σ ((rs.nx ok (n1.trans n2).st).nx n2.ok n3.st)
                · exact h2.elim
              | _ => rw [q2] at h2; exact h2.elim
          | _ => rw [q1] at h; exact h.elim
/-- name[k] = e -/
theorem sns_sti {i : Nat} {x : Str} {b : Expr} (ha : SndE L N sc ca W e (ev G ie)) (hb : SndE L N sc ca W b (ev G ib)) (hv : nameOk N sc i x = true) (hc : notComp e = true) (hw : ∀ X, Ctx L N sc ca W X → swappedStores [.Subscript (.Name x p) b p2] e X.env = pure none) (hs : noSlice b = true) :
    SndS L N sc ca W (.Assign [.Subscript (.Name x p) b p2] e pos) (ex1 G (.sti i ib ie)) := by
  obtain ⟨ta, pa, sa⟩ := ha
  obtain ⟨tb, pb, sb⟩ := hb
  refine ⟨tAsg ta (gSub (tVar i) tb rSetL), fun X C => ?_, fun Ze w σ ρ D ok rs h => ?_⟩
  · have hvis : PE X (.Name x p) (tVar i) := by
      unfold nameOk at hv
      simp only [Bool.and_eq_true, decide_eq_true_eq, Bool.not_eq_true'] at hv
      obtain ⟨⟨⟨h1, h2⟩, h3⟩, h4⟩ := hv
      refine pe_var (by rw [C.eN]; exact h1) ?_ h3 h4
      unfold Vis
      rw [C.es]
      revert h2
      cases sc.names.lookup x with
      | none => intro h; cases h
      | some k => cases k <;> intro h <;> first | exact .inl rfl | exact .inr (.inl rfl) | exact .inr (.inr rfl) | cases h
    exact ps_asg (pa X C) (pg_sub hvis (pb X C) set_list (by cases b <;> first | exact fun _ => rfl | cases hs)) (by unfold swapsWithSole; exact sw_false hc) (hw X C) rfl
  · simp only [ex1] at h
    refine sa Ze w σ ρ _ ok rs ((post.bind h).imp fun x w1 n1 h1 v r1 => ?_)
    obtain ⟨d, w2, n2, e2, r2, h2⟩ := frzX_post n1.ok r1 (post.bind h1)
    cases q : ρ[i]? with
    | none => rw [q] at h2; exact h2.elim
    | some s =>
      cases s with
      | u => rw [q] at h2; exact h2.elim
      | v d => rw [q] at h2; exact h2.elim
      | h j =>
        rw [q] at h2
        have rs2 := (rs.nx ok n1.st).nx n1.ok n2.st
        obtain ⟨a, ea, es⟩ := slot_h rs2 q
        refine ⟨.ref a, es, ?_⟩
        rw [← e2]
        refine sb Ze w2 σ ρ _ n2.ok rs2 ((post.bind h2).imp fun y w3 n3 h3 u r3 => ?_)
        cases q3 : w3.φ[j]? with
        | none => rw [q3] at h3; exact h3.elim
        | some o =>
          cases o with
          | lst ds =>
            cases y with
            | h k => rw [q3] at h3; exact h3.elim
            | v dy =>
              cases dy with
              | int k =>
                rw [q3] at h3
                simp only at h3
                cases qm : L2.ixN ds.length k with
                | none => rw [qm] at h3; exact h3.elim
                | some m =>
                  rw [qm] at h3
                  cases r3
                  have ea3 := adr_nx n3.st ea
                  obtain ⟨vs, hv, rv⟩ := n3.ok.store j a _ ea3 q3
                  refine ⟨a, vs, k, m, rfl, rfl, hv, by rw [rv.length]; exact qm, ?_⟩
                  have n4 := lst_turn n3.ok ea3 q3 hv (Reps.set (Rep.keeps (n3.st.keeps n2.ok) r2) m rv)
                  exact h3 _ rfl n4 σ ((rs2.nx n2.ok n3.st).nx n3.ok n4.st)
              | _ => rw [q3] at h3; exact h3.elim
          | _ => rw [q3] at h3; first | exact h3.elim | (cases y <;> exact h3.elim)
/-! ### a, b = x, y -/
theorem sw_none {X : Cx} {ts vs : List Expr} {k k2 : Nat} (h : vs.all (foldedForSure 8) = true ∨ (!(ts.length == 2 || ts.length == 3)) = true) : swappedStores [.Tuple ts k p] (.Tuple vs k2 p2) X.env = pure none := by
  unfold swappedStores
  simp only []
  split
  · rfl
  · rename_i h1
    split
    · rfl
    · split
      · rfl
      · split
        · rfl
        · rename_i h4
          rcases h with h | h
          · exact absurd h h4
          · exact absurd (by rw [h]; rfl) h1
theorem sw_nt {tgs : List Expr} {e : Expr} {env : Env} {k : Nat} (h : (match e with | .Tuple _ _ _ => false | _ => true) = true) : swappedStores [.Tuple tgs k p] e env = pure none := by
  cases e <;> first | rfl | cases h
theorem sw_sub {o i : Expr} {e : Expr} {env : Env} : swappedStores [.Subscript o i p] e env = pure none := by
  cases e <;> rfl
theorem sw_two {X : Cx} {x y : Str} {k k2 : Nat} (C : Ctx L N sc ca W X) (hk : sc.kind = .function) (hx : sc.names.lookup x = some .local) (hy : sc.names.lookup y = some .local) (hl : (p2.line == p1.line) = true) (hd : ([x, y].eraseDups.length != 2) = false) (ha : noStar a = true) (hb : noStar b = true)
    (hf : [a, b].all (foldedForSure 8) = false) (hc : [a, b].all (constantsAlone 8) = false) : swappedStores [.Tuple [.Name x p1, .Name y p2] k p] (.Tuple [a, b] k2 p3) X.env = pure (some [x, y]) := by
  have hbk : X.env.blockKind = .function := by unfold Env.blockKind; rw [C.es, hk]; rfl
  have hkx : X.env.kindOf x = some .local := by unfold Env.kindOf; rw [C.es]; exact hx
  have hky : X.env.kindOf y = some .local := by unfold Env.kindOf; rw [C.es]; exact hy
  have hnames : ([Expr.Name x p1, Expr.Name y p2].filterMap fun
    | .Name id pos => if X.env.kindOf id == some .local && pos.line == p1.line then some id else none
    | _ => none) = [x, y] := by
    simp only [List.filterMap_cons, List.filterMap_nil, hkx, hky, hl, beq_self_eq_true, Bool.and_self, if_true]
  unfold swappedStores
  simp only []
  split
  · rename_i h1
    rw [hbk] at h1
    exact absurd h1 (by simp)
  · split
    · rename_i h2
      exfalso
      have f : ∀ e : Expr, noStar e = true → (match e with | .Starred .. => true | _ => false) = false := fun e h => by cases e <;> first | rfl | cases h
      have this : ([a, b].any fun e => match e with | .Starred .. => true | _ => false) = false := by
        rw [List.any_cons, List.any_cons, List.any_nil, f a ha, f b hb]; rfl
      exact absurd (this.symm.trans h2) (by decide)
    · split
      · rename_i h3
        exfalso
        have e3 : (([x, y] : List Str).length != 2 || [x, y].eraseDups.length != ([x, y] : List Str).length) = true := by
          rw [← hnames]
          exact h3
        rw [show ([x, y] : List Str).length = 2 from rfl, hd] at e3
        exact absurd e3 (by decide)
      · split
        · rename_i h4
          rw [hf] at h4; cases h4
        · split
          · rename_i h5
            rw [hc] at h5; cases h5
          · show pure (some _) = _
            exact congrArg (fun z => pure (some z)) hnames
theorem sw_three {X : Cx} {x y z : Str} {k k2 : Nat} (C : Ctx L N sc ca W X) (hk : sc.kind = .function) (hx : sc.names.lookup x = some .local) (hy : sc.names.lookup y = some .local) (hz : sc.names.lookup z = some .local) (hl : (p2.line == p1.line) = true) (hl2 : (p4.line == p1.line) = true) (hd : ([x, y, z].eraseDups.length != 3) = false) (ha : noStar a = true) (hb : noStar b = true) (hc' : noStar c = true)
    (hf : [a, b, c].all (foldedForSure 8) = false) (hc : [a, b, c].all (constantsAlone 8) = false) : swappedStores [.Tuple [.Name x p1, .Name y p2, .Name z p4] k p] (.Tuple [a, b, c] k2 p3) X.env = pure (some [x, y, z]) := by
  have hbk : X.env.blockKind = .function := by unfold Env.blockKind; rw [C.es, hk]; rfl
  have hkx : X.env.kindOf x = some .local := by unfold Env.kindOf; rw [C.es]; exact hx
  have hky : X.env.kindOf y = some .local := by unfold Env.kindOf; rw [C.es]; exact hy
  have hkz : X.env.kindOf z = some .local := by unfold Env.kindOf; rw [C.es]; exact hz
  have hnames : ([Expr.Name x p1, Expr.Name y p2, Expr.Name z p4].filterMap fun
    | .Name id pos => if X.env.kindOf id == some .local && pos.line == p1.line then some id else none
    | _ => none) = [x, y, z] := by
    simp only [List.filterMap_cons, List.filterMap_nil, hkx, hky, hkz, hl, hl2, beq_self_eq_true, Bool.and_self, if_true]
  unfold swappedStores
  simp only []
  split
  · rename_i h1
    rw [hbk] at h1
    exact absurd h1 (by simp)
  · split
    · rename_i h2
      exfalso
      have f : ∀ e : Expr, noStar e = true → (match e with | .Starred .. => true | _ => false) = false := fun e h => by cases e <;> first | rfl | cases h
      have this : ([a, b, c].any fun e => match e with | .Starred .. => true | _ => false) = false := by
        rw [List.any_cons, List.any_cons, List.any_cons, List.any_nil, f a ha, f b hb, f c hc']; rfl
      exact absurd (this.symm.trans h2) (by decide)
    · split
      · rename_i h3
        exfalso
        have e3 : (([x, y, z] : List Str).length != 3 || [x, y, z].eraseDups.length != ([x, y, z] : List Str).length) = true := by
          rw [← hnames]
          exact h3
        rw [show ([x, y, z] : List Str).length = 3 from rfl, hd] at e3
        exact absurd e3 (by decide)
      · split
        · rename_i h4
          rw [hf] at h4; cases h4
        · split
          · rename_i h5
            rw [hc] at h5; cases h5
          · show pure (some _) = _
            exact congrArg (fun z => pure (some z)) hnames
theorem RepXs.two {vs : List V} {x y : X1} (r : RepXs L.K L.mg Ze w vs [x, y]) : ∃ v u, vs = [v, u] ∧ RepX L.K L.mg Ze w v x ∧ RepX L.K L.mg Ze w u y := by
  cases r with | cons r t => cases t with | cons q t => cases t; exact ⟨_, _, rfl, r, q⟩
theorem RepXs.three {vs : List V} {x y z : X1} (r : RepXs L.K L.mg Ze w vs [x, y, z]) : ∃ v u t, vs = [v, u, t] ∧ RepX L.K L.mg Ze w v x ∧ RepX L.K L.mg Ze w u y ∧ RepX L.K L.mg Ze w t z := by
  cases r with | cons r t => obtain ⟨u, t, rfl, q⟩ := RepXs.two t; exact ⟨_, _, _, rfl, r, q⟩
def locOk (N : List Str) (sc : Scope) (i : Nat) (x : Str) : Bool := decide (N[i]? = some x) && decide (sc.names.lookup x = some .local)
theorem loc_of {X : Cx} {i : Nat} {x : Str} (C : Ctx L N sc ca W X) (h : locOk N sc i x = true) : X.N[i]? = some x ∧ X.env.scope.names.lookup x = some .local ∧ i < N.length := by
  unfold locOk at h
  simp only [Bool.and_eq_true, decide_eq_true_eq] at h
  exact ⟨by rw [C.eN]; exact h.1, by rw [C.es]; exact h.2, (List.getElem?_eq_some_iff.mp h.1).1⟩
theorem sns_par2 {i j : Nat} {x y : Str} {k k2 : Nat} (ha : SndA L N sc ca W [a, b] (evs G ies)) (hk : sc.kind = .function) (hi : locOk N sc i x = true) (hj : locOk N sc j y = true) (hij : i ≠ j)
    (hl : (p2.line == p1.line) = true) (hd : ([x, y].eraseDups.length != 2) = false) (sa' : noStar a = true) (sb' : noStar b = true) (hf : [a, b].all (foldedForSure 8) = false) (hca : [a, b].all (constantsAlone 8) = false) : SndS L N sc ca W (.Assign [.Tuple [.Name x p1, .Name y p2] k p] (.Tuple [a, b] k2 p3) pos) (ex1 G (.par [i, j] ies)) := by
  obtain ⟨ta, pa, sa⟩ := ha
  refine ⟨tPar i j ta, fun X C => ?_, fun Ze w σ ρ D ok rs h => ?_⟩
  · obtain ⟨h1, h2, _⟩ := loc_of C hi
    obtain ⟨h3, h4, _⟩ := loc_of C hj
    exact ps_par C.calm C.nodup h1 h3 hij h2 h4 (pa X C) (sw_two C hk (by rw [← C.es]; exact h2) (by rw [← C.es]; exact h4) hl hd sa' sb' hf hca) (by unfold swapsWithSole; exact sw_false rfl)
  · simp only [ex1] at h
    refine sa Ze w σ ρ _ ok rs ((post.bind h).imp fun xs w1 n1 h1 vs r1 => ?_)
    split at h1
    · rename_i hc
      obtain ⟨hc, _⟩ := hc
      match xs, hc, r1 with
      | [x, y], _, r1 =>
        obtain ⟨v, u, rfl, q1, q2⟩ := RepXs.two r1
        exact ⟨v, u, rfl, post.here n1.ok h1 _ (((rs.nx ok n1.st).set i q1).set j q2)⟩
    · exact h1.elim
theorem sns_par3 {i j l : Nat} {x y z : Str} {k k2 : Nat} (ha : SndA L N sc ca W [a, b, c] (evs G ies)) (hk : sc.kind = .function) (hi : locOk N sc i x = true) (hj : locOk N sc j y = true) (hl : locOk N sc l z = true) (hij : i ≠ j) (hil : i ≠ l) (hjl : j ≠ l)
    (hln : (p2.line == p1.line) = true) (hln2 : (p4.line == p1.line) = true) (hd : ([x, y, z].eraseDups.length != 3) = false) (sa' : noStar a = true) (sb' : noStar b = true) (sc' : noStar c = true) (hf : [a, b, c].all (foldedForSure 8) = false) (hca : [a, b, c].all (constantsAlone 8) = false) : SndS L N sc ca W (.Assign [.Tuple [.Name x p1, .Name y p2, .Name z p4] k p] (.Tuple [a, b, c] k2 p3) pos) (ex1 G (.par [i, j, l] ies)) := by
  obtain ⟨ta, pa, sa⟩ := ha
  refine ⟨tPar3 i j l ta, fun X C => ?_, fun Ze w σ ρ D ok rs h => ?_⟩
  · obtain ⟨h1, h2, _⟩ := loc_of C hi
    obtain ⟨h3, h4, _⟩ := loc_of C hj
    obtain ⟨h5, h6, _⟩ := loc_of C hl
    exact ps_par3 C.calm C.nodup h1 h3 h5 hij hil hjl h2 h4 h6 (pa X C) (sw_three C hk (by rw [← C.es]; exact h2) (by rw [← C.es]; exact h4) (by rw [← C.es]; exact h6) hln hln2 hd sa' sb' sc' hf hca) (by unfold swapsWithSole; exact sw_false rfl)
  · simp only [ex1] at h
    refine sa Ze w σ ρ _ ok rs ((post.bind h).imp fun xs w1 n1 h1 vs r1 => ?_)
    split at h1
    · rename_i hc
      obtain ⟨hc, _⟩ := hc
      match xs, hc, r1 with
      | [x, y, z], _, r1 =>
        obtain ⟨v, u, t, rfl, q1, q2, q3⟩ := RepXs.three r1
        exact ⟨v, u, t, rfl, post.here n1.ok h1 _ ((((rs.nx ok n1.st).set i q1).set j q2).set l q3)⟩
    · exact h1.elim
/-! ### loops -/
theorem sns_whl {n : Nat} {B : List Stmt} {sb : List IS} (hc : SndT L N sc ca W c (evT G ic)) (hb : SndSs L N sc ca W B (exs G sb)) : SndS L N sc ca W (.While c B [] pos) (ex1 G (.whl n ic sb)) := by
  obtain ⟨tc, pc, so⟩ := hc
  obtain ⟨tb, pb, sb'⟩ := hb
  refine ⟨tWhile tc tb, fun X C => ps_while C.own (pc X C) (pb X C), fun Ze w σ ρ D ok rs h => ?_⟩
  simp only [ex1] at h
  refine ⟨fun m σ' H' => ∃ w' ρ', w'.H = H' ∧ Nx L.K L.mg Ze w w' ∧ RepS L.K L.mg Ze w' σ' ρ' ∧ post L.K L.mg Ze W (whlL (fun ρ1 φ1 => evT G ic ρ1 φ1) (fun ρ1 φ1 => exs G sb ρ1 φ1) m ρ' w'.φ) w' (kOut L Ze D), ⟨n, w, ρ, rfl, .refl ok, rs, h⟩, ?_⟩
  rintro m σ1 H1 ⟨w1, ρ1, rfl, n1, rs1, h1⟩
  cases m with
  | zero => simp only [whlL] at h1; exact h1.elim
  | succ m =>
    simp only [whlL] at h1
    refine so Ze w1 σ1 ρ1 _ n1.ok rs1 ((post.bind h1).imp fun t w2 n2 h2 => ?_)
    have rs2 := rs1.nx n1.ok n2.st
    cases t with
    | false =>
      show D.nx σ1 w2.H
      exact post.here n2.ok h2 σ1 rs2
    | true =>
      refine ⟨fun σ' H' => ∃ w' ρ', w'.H = H' ∧ Nx L.K L.mg Ze w w' ∧ RepS L.K L.mg Ze w' σ' ρ' ∧ post L.K L.mg Ze W (whlL (fun ρ1 φ1 => evT G ic ρ1 φ1) (fun ρ1 φ1 => exs G sb ρ1 φ1) m ρ' w'.φ) w' (kOut L Ze D), fun σ' H' q => ⟨m, Nat.lt_succ_self m, q⟩, ?_⟩
      simp only [if_true] at h2
      refine sb' Ze w2 σ1 ρ1 _ n2.ok rs2 ((post.bind h2).imp fun o w3 n3 h3 => ?_)
      cases o with
      | nx ρ3 => exact fun σ3 rs3 => ⟨w3, ρ3, rfl, (n1.trans n2).trans n3, rs3, h3⟩
      | rt x => exact fun v r => post.here n3.ok h3 v r
theorem kOut_unl {D : Ends} {o : Out} {w' w'' : Wd} (eH : w''.H = w'.H) (ea : w''.α = w'.α) (ez : Z Ze w'' = Z Ze w') (h : kOut L Ze D o w'') : kOut L Ze D o w' := by
  have rx : ∀ {v : V} {x : X1}, RepX L.K L.mg Ze w' v x → RepX L.K L.mg Ze w'' v x := fun {v x} r => by
    cases x with
    | v d => show Rep _ _ _ _ _ _; rw [eH, ez]; exact r
    | h j => obtain ⟨a, e, q⟩ := r; exact ⟨a, by rw [ea]; exact e, q⟩
  cases o with
  | nx ρ' =>
    intro σ' rs
    have := h σ' ⟨rs.len, fun i s e => by
      have q := rs.at' i s e
      cases s with
      | u => trivial
      | v d => obtain ⟨v, e1, r⟩ := q; exact ⟨v, e1, rx (x := .v d) r⟩
      | h j => obtain ⟨a, e1, r⟩ := q; exact ⟨a, by rw [ea]; exact e1, r⟩⟩
    rw [eH] at this
    exact this
  | rt x =>
    intro v r
    have := h v (rx r)
    rw [eH] at this
    exact this
theorem sns_for {t : Tg} {it : II} {iter : Expr} {B : List Stmt} {sb : List IS} (hi : SndI L N sc ca W tg iter (evI G it)) (hg : SndG L N sc ca W tg t) (hb : SndSs L N sc ca W B (exs G sb)) (hs : ∀ env x, foldedSetIterable iter env x = pure x) :
    SndS L N sc ca W (.For tg iter B [] pos) (ex1 G (.for t it sb)) := by
  obtain ⟨wi, pi, si⟩ := hi
  obtain ⟨g, pg, sg⟩ := hg
  obtain ⟨tb, pb, sb'⟩ := hb
  refine ⟨tFor wi g tb, fun X C => ps_for C.own C.calm (pi X C) (pg X C) (pb X C) (hs X.env), fun Ze w σ ρ D ok rs h => ?_⟩
  simp only [ex1] at h
  refine si Ze w σ ρ _ Out Out (fun wk φ1 => forL (fun d ρ1 φ2 => match bindT t d ρ1 with | none => .bad | some ρ2 => exs G sb ρ2 φ2) wk.ds ρ φ1) id _ ok rs h fun J wk w1 n1 wl h1 => ?_
  have h1 : post L.K L.mg Ze W (forL (fun d ρ1 φ2 => match bindT t d ρ1 with | none => R.bad | some ρ2 => exs G sb ρ2 φ2) wk.ds ρ w1.φ) w1 (kOut L Ze D) :=
    h1.imp fun o w' _ ⟨w'', a1, a2, a3, _, a5⟩ => kOut_unl a1 a2 a3 a5
  refine ⟨fun i m σ' H' => m = wk.ds.length - i ∧ i ≤ wk.ds.length ∧ ∃ w' ρ', w'.H = H' ∧ Nx L.K L.mg Ze w1 w' ∧ RepS L.K L.mg Ze w' σ' ρ' ∧
    post L.K L.mg Ze W (forL (fun d ρ1 φ2 => match bindT t d ρ1 with | none => R.bad | some ρ2 => exs G sb ρ2 φ2) (wk.ds.drop i) ρ' w'.φ) w' (kOut L Ze D), ⟨wk.ds.length, by simp, Nat.zero_le _, w1, ρ, rfl, .refl n1.ok, rs.nx ok n1.st, by rw [List.drop_zero]; exact h1⟩, ?_⟩
  rintro i m σ2 H2 ⟨rfl, hle, w2, ρ2, rfl, n2, rs2, h2⟩
  by_cases hlt : i < wk.ds.length
  · refine .inr ⟨wl.go i _ w2 (Fol.of n2) hlt, fun σ' H' => ∃ w' ρ', w'.H = H' ∧ Nx L.K L.mg Ze w1 w' ∧ RepS L.K L.mg Ze w' σ' ρ' ∧
      post L.K L.mg Ze W (forL (fun d ρ1 φ2 => match bindT t d ρ1 with | none => R.bad | some ρ2 => exs G sb ρ2 φ2) (wk.ds.drop (i + 1)) ρ' w'.φ) w' (kOut L Ze D), fun σ' H' q => ⟨wk.ds.length - (i + 1), by omega, rfl, hlt, q⟩, fun v H' y => ?_⟩
    obtain ⟨ex, rv⟩ := wl.yld i _ _ w2 v H' (Fol.of n2) (List.getElem?_eq_getElem hlt) y
    have n3 : Nx L.K L.mg Ze w2 ⟨w2.α, w2.φ, H'⟩ := nx_ext n2.ok ex
    have rs3 := rs2.nx n2.ok n3.st
    rw [List.drop_eq_getElem_cons hlt] at h2
    simp only [forL] at h2
    have h3 := post.later n3 h2
    cases q : bindT t wk.ds[i] ρ2 with
    | none => rw [q] at h3; exact h3.elim
    | some ρ3 =>
      rw [q] at h3
      have rv' : Rep L.K L.mg H' (Z Ze ⟨w2.α, w2.φ, H'⟩) v wk.ds[i] := rv
      refine sg Ze ⟨w2.α, w2.φ, H'⟩ σ2 ρ2 ρ3 v _ _ n3.ok rs3 rv' q fun σ4 rs4 _ => ?_
      refine sb' Ze ⟨w2.α, w2.φ, H'⟩ σ4 ρ3 _ n3.ok rs4 ((post.bind h3).imp fun o w5 n5 h5 => ?_)
      cases o with
      | nx ρ5 => exact fun σ5 rs5 => ⟨w5, ρ5, rfl, (n2.trans n3).trans n5, rs5, h5⟩
      | rt x => exact fun v r => post.here n5.ok h5 v r
  · have e : i = wk.ds.length := by omega
    subst e
    refine .inl ⟨wl.stop _ _ w2 (Fol.of n2) (Nat.le_refl _), ?_⟩
    rw [List.drop_length] at h2
    simp only [forL] at h2
    exact post.here n2.ok h2 σ2 rs2
end
end Ev
/-! Part N: list comprehensions. -/
namespace Ev
open PySem PySem.Spec PyProof.Rows L2
section
variable {L : Lw} {N : List Str} {sc : Scope} {ca : Str → Bool} {W W' : XK} {Ze Zf : Addr → Prop} {w w0 w1 w2 w' : Wd} {σ : SS} {ρ ρ' : List Sl}
variable {a b c e i z tg elt iter : Expr} {es : List Expr} {pos p p1 p2 p3 p4 apos cpos : Pos} {G : List FSem} {ia ib ic ie ii iz : IE} {ies : List IE} {st : Stmt} {sts : List Stmt}
/-- without the object at D -/
def vt (D : Addr) (w : Wd) : Wd := ⟨w.α, w.φ, fun b => if b = D then none else w.H b⟩
theorem vt_live {D b : Addr} : Live (vt D w) b ↔ Live w b := Iff.rfl
theorem nox_bind {β γ : Type} (r : R β) (f : β → List O → R γ) : R.nox (r.bind f) = (R.nox r).bind fun b φ => R.nox (f b φ) := by
  cases r <;> rfl
theorem post.nox {β : Type} {r : R β} {k : β → Wd → Prop} {E E' : XK} (h : post L.K L.mg Ze E (R.nox r) w k) : post L.K L.mg Ze E' r w k := by
  cases r with
  | bad => exact h
  | ok b φ => exact h
  | exc c d φ => exact h.elim
/-- the block's zone: the new list, too -/
def ZeD (Ze : Addr → Prop) (D : Addr) : Addr → Prop := fun a => Ze a ∨ a = D
theorem vt_keeps {D : Addr} {acc : List V} (hD : w.H D = some (.lst acc)) (hZ : ¬ Ze D) : Keeps w.H (vt D w).H (Z (ZeD Ze D) w) (Z Ze (vt D w)) where
  fix := fun a o e n => by
    have : a ≠ D := fun z => n (.inl (.inr z))
    show (if a = D then none else w.H a) = _
    rw [if_neg this]; exact e
  tup := fun a xs e => by
    have : a ≠ D := fun z => by rw [z, hD] at e; cases e
    show (if a = D then none else w.H a) = _
    rw [if_neg this]; exact e
  frz := fun a o u e => by
    have : a ≠ D := fun z => by rw [z, hD] at e; cases e
    show (if a = D then none else w.H a) = _
    rw [if_neg this]; exact e
  zone := fun a o _ n z => by
    rcases z with z | z
    · exact n (.inl (.inl z))
    · exact n (.inr z)
theorem RepO.keepsLive {K : PySem.W.Frag} {mg : Str → Option Value} {H H' : Hp} {Zp Zq : Addr → Prop} (k : Keeps H H' Zp Zq) {a : Addr} {o : O} (h : RepO K mg H Zp a o) (hk : ∀ u, H a = some u → H' a = some u) : RepO K mg H' Zq a o := h.keepsL k fun _ => hk
theorem vt_ok {D : Addr} {acc : List V} (ok : Ok L.K L.mg (ZeD Ze D) w) (hD : w.H D = some (.lst acc)) (hZ : ¬ Ze D) : Ok L.K L.mg Ze (vt D w) := by
  have ne : ∀ (j : Nat) a, w.α[j]? = some a → a ≠ D := fun j a e z => ok.out j a e (.inr z)
  refine ⟨ok.len, ok.nd, fun a z => ?_, fun j a e => ?_, fun j a e z => ok.out j a e (.inl z), fun j a o e1 e2 => ?_⟩
  · obtain ⟨o, h⟩ := ok.dom a (.inl z)
    refine ⟨o, ?_⟩
    show (if a = D then none else w.H a) = _
    rw [if_neg (fun q => hZ (by rw [← q]; exact z))]; exact h
  · obtain ⟨o, h⟩ := ok.adom j a e
    refine ⟨o, ?_⟩
    show (if a = D then none else w.H a) = _
    rw [if_neg (ne j a e)]; exact h
  · refine RepO.keepsLive (vt_keeps hD hZ) (ok.store j a o e1 e2) fun u h => ?_
    show (if a = D then none else w.H a) = _
    rw [if_neg (ne j a e1)]; exact h
theorem vt_nx {D : Addr} {acc : List V} (ok : Ok L.K L.mg (ZeD Ze D) w) (hD : w.H D = some (.lst acc)) (hZ : ¬ Ze D) (n : Nx L.K L.mg (ZeD Ze D) w w2) : w2.H D = some (.lst acc) ∧ Nx L.K L.mg Ze (vt D w) (vt D w2) := by
  have nl : ¬ Live w D := fun ⟨j, o, e, _⟩ => ok.out j D e (.inr rfl)
  have hD2 := n.st.keep D _ hD nl
  refine ⟨hD2, ⟨vt_ok n.ok hD2 hZ, ?_⟩⟩
  have get : ∀ (x : Wd) (b : Addr), (vt D x).H b = if b = D then none else x.H b := fun _ _ => rfl
  refine ⟨?_, fun b o e l => ?_, fun b l => ?_, n.st.lck, fun b o e => ?_⟩
  · obtain ⟨β, e, h⟩ := n.st.pre
    exact ⟨β, e, fun b hb => by rw [get, h b hb]; split <;> rfl⟩
  · rw [get] at e ⊢
    by_cases hb : b = D
    · rw [if_pos hb] at e; cases e
    · rw [if_neg hb] at e ⊢
      exact n.st.keep b o e l
  · rcases n.st.live b l with l | l
    · exact .inl l
    · refine .inr ?_
      rw [get, l]; split <;> rfl
  · rw [get] at e
    by_cases hb : b = D
    · rw [if_pos hb] at e; cases e
    · rw [if_neg hb] at e
      obtain ⟨o', h⟩ := n.st.there b o e
      exact ⟨o', by rw [get, if_neg hb]; exact h⟩
/-- from the world without the new list to the one with it -/
theorem post_vt {β : Type} {r : R β} {D : Addr} {acc : List V} {k : β → Wd → Prop} {E E' : XK} (ok : Ok L.K L.mg (ZeD Ze D) w) (hD : w.H D = some (.lst acc)) (hZ : ¬ Ze D) (h : post L.K L.mg Ze E (R.nox r) (vt D w) k) :
    post L.K L.mg (ZeD Ze D) E' r w (fun b w2 => w2.H D = some (.lst acc) ∧ k b (vt D w2)) := by
  cases r with
  | bad => exact h
  | exc c d φ => exact h.elim
  | ok b φ =>
    intro w2 e n
    obtain ⟨h1, h2⟩ := vt_nx ok hD hZ n
    exact ⟨h1, h _ e h2⟩
theorem Ctx.blk {X : Cx} (C : Ctx L N sc ca W X) (s : Shared) (H : Hp) (scope : Scope) (cl : List (Str × Addr)) (Cc : Addr) (fp : List Addr) :
    Ctx L N (relS scope sc) (fun x => scope.names.lookup x == some .cell) (fun _ _ _ => False) (X.blk s H scope (compEnvC scope cl Cc X.env) fp) where
  eP := C.eP
  ew := C.ew
  eK := C.eK
  em := C.em
  eb := C.eb
  eN := C.eN
  es := by rw [← C.es]; rfl
  nd := C.nd
  hr := C.hr
  gd := C.gd
  calm := C.calm
  fn := fun x h => h
  tk := fun u s' ⟨a, B, sI, pins, σ, H, cls, d, e, I, nb, up, sky, na, os, ag, f⟩ => f.elim
  own := PassesOwn.never
/-- a test that may be left out -/
def SndC (L : Lw) (N : List Str) (sc : Scope) (ca : Str → Bool) (W : XK) (G : List FSem) (ifs : List Expr) (c : Option IE) : Prop :=
  ∃ t : TT, (∀ X, Ctx L N sc ca W X → PTs X ifs t) ∧ SoT L W t (evC G c)
theorem snc_none : SndC L N sc ca W G [] none := ⟨tYes, fun X C => pts_nil, fun Ze w σ ρ Q ok rs h => by simp only [evC] at h; exact post.here ok h⟩
theorem snc_one (ha : SndT L N sc ca W c (evT G ic)) : SndC L N sc ca W G [c] (some ic) := by
  obtain ⟨t, p, s⟩ := ha
  exact ⟨t, fun X C => pts_one (p X C), fun Ze w σ ρ Q ok rs h => s Ze w σ ρ Q ok rs (by simp only [evC] at h; exact h)⟩
/-- what a comprehension's parts owe -/
theorem comp_read {wi : TI} {g : TG} {tt : TT} {te : TE} {own : List Nat} {t : Tg} {it : II} {c : Option IE} {ielt : IE}
    (si : ∀ (Ze : Addr → Prop) w σ ρ (R' : It → Hp → Prop) (γ δ : Type) (rest : Wk → List O → R γ) (fin : γ → δ) (k : δ → Wd → Prop), Ok L.K L.mg Ze w → RepS L.K L.mg Ze w σ ρ →
      post L.K L.mg Ze W (Aft (evI G it ρ w.φ) rest fin) w k →
      (∀ J wk w1, Nx L.K L.mg Ze w w1 → Wlk L Ze J wk.ds w1 → post L.K L.mg Ze W (rest wk w1.φ) w1 (fun o w' => ∃ w'', w''.H = w'.H ∧ w''.α = w'.α ∧ Z Ze w'' = Z Ze w' ∧ Nx L.K L.mg Ze w w'' ∧ k (fin o) w'') → R' J w1.H) → wi σ w.H R')
    (sg : ∀ (Ze : Addr → Prop) w σ ρ ρ' v d Q, Ok L.K L.mg Ze w → RepS L.K L.mg Ze w σ ρ → Rep L.K L.mg w.H (Z Ze w) v d → bindT t d ρ = some ρ' → (∀ σ', RepS L.K L.mg Ze w σ' ρ' → SameB t.slots σ σ' → Q σ' w.H) → g v σ w.H Q)
    (stt : SoT L W' tt (evC G c)) (se : SoE L W' te (ev G ielt)) (hsl : ∀ i ∈ t.slots, i ∈ own) :
    SoF L W (tLc wi g tt te own) (evF G (.comp own t it c ielt)) := by
  intro Ze w σ ρ Q ok rs h
  simp only [evF] at h
  refine si Ze w σ ρ _ _ O (fun wk φ1 => compX own t (fun ρ1 φ2 => evC G c ρ1 φ2) (fun ρ1 φ2 => ev G ielt ρ1 φ2) ρ wk φ1) O.lst _ ok rs h fun J wk w1 n1 wl h1 => ?_
  unfold compX at h1
  by_cases hz : wk.ds.length ≤ sizeLine
  · rw [if_pos hz] at h1
    intro D hD
    have hZ : ¬ Ze D := fun z => by obtain ⟨o, e⟩ := n1.ok.dom D z; rw [hD] at e; cases e
    -- what holds ahead of each turn
    let Pv : Nat → Hp → Prop := fun i H => i ≤ wk.ds.length ∧ ∃ wc acc dacc, wc.H = H ∧ H D = some (.lst acc) ∧ acc.length ≤ i ∧ Fol L Ze w1 (ZeD Ze D) wc ∧ Reps L.K L.mg H (Z (ZeD Ze D) wc) acc dacc ∧ Nx L.K L.mg Ze w1 (vt D wc) ∧
      post L.K L.mg Ze W (R.nox (compL (one1 own t (fun ρ1 φ2 => evC G c ρ1 φ2) (fun ρ1 φ2 => ev G ielt ρ1 φ2) ρ) (wk.ds.drop i) wc.φ)) (vt D wc) (fun r w' => ∃ w'', w''.H = w'.H ∧ w''.α = w'.α ∧ Z Ze w'' = Z Ze w' ∧ Nx L.K L.mg Ze w w'' ∧ NewAt L Ze w'' (.lst (dacc ++ r)) w'' Q)
    have P0 : Pv 0 (upd w1.H D (.lst [])) := by
      refine ⟨Nat.zero_le _, ⟨w1.α, w1.φ, upd w1.H D (.lst [])⟩, [], [], rfl, upd_same, Nat.le_refl _, ?_, .nil, ?_, ?_⟩
      · have ex : Ext w1.H (upd w1.H D (.lst [])) := Ext.upd hD
        have le : ∀ a o, w1.H a = some o → ZeD Ze D a → Ze a := fun a o e z => by
          rcases z with z | z
          · exact z
          · rw [z, hD] at e; cases e
        have ke : Keeps w1.H (upd w1.H D (.lst [])) (Z Ze w1) (Z (ZeD Ze D) ⟨w1.α, w1.φ, upd w1.H D (.lst [])⟩) := ⟨fun a o e _ => ex a o e, fun a _ e => ex a _ e, fun a _ _ e => ex a _ e, fun a o e n z => by
          rcases z with z | z
          · exact n (.inl (le a o e z))
          · exact n (.inr z)⟩
        refine ⟨⟨n1.ok.len, n1.ok.nd, fun a z => ?_, fun j a e => ?_, fun j a e z => ?_, fun j a o e1 e2 => ?_⟩, (nx_ext n1.ok ex).st, le⟩
        · rcases z with z | z
          · obtain ⟨o, h⟩ := n1.ok.dom a z; exact ⟨o, ex a o h⟩
          · exact ⟨_, by rw [z]; exact upd_same⟩
        · obtain ⟨o, h⟩ := n1.ok.adom j a e; exact ⟨o, ex a o h⟩
        · rcases z with z | z
          · exact n1.ok.out j a e z
          · obtain ⟨o, h⟩ := n1.ok.adom j a e; rw [z, hD] at h; cases h
        · exact (n1.ok.store j a o e1 e2).keepsL ke fun _ u h => ex a u h
      · have e : vt D ⟨w1.α, w1.φ, upd w1.H D (.lst [])⟩ = w1 := by
          obtain ⟨α, φ, H⟩ := w1
          have : (fun b => if b = D then none else upd H D (.lst []) b) = H := by
            funext b
            by_cases hb : b = D
            · rw [if_pos hb, hb]; exact hD.symm
            · rw [if_neg hb, upd_ne hb]
          show Wd.mk α φ (fun b => if b = D then none else upd H D (.lst []) b) = _
          rw [this]
        rw [e]
        exact .refl n1.ok
      · have e : vt D ⟨w1.α, w1.φ, upd w1.H D (.lst [])⟩ = w1 := by
          obtain ⟨α, φ, H⟩ := w1
          have : (fun b => if b = D then none else upd H D (.lst []) b) = H := by
            funext b
            by_cases hb : b = D
            · rw [if_pos hb, hb]; exact hD.symm
            · rw [if_neg hb, upd_ne hb]
          show Wd.mk α φ (fun b => if b = D then none else upd H D (.lst []) b) = _
          rw [this]
        rw [e, List.drop_zero]
        exact h1
    refine ⟨fun i m H => m = wk.ds.length - i ∧ Pv i H, ⟨wk.ds.length, by simp, P0⟩, ?_⟩
    rintro i m H ⟨rfl, hle, wc, acc, dacc, rfl, hDc, hal, fo, racc, nv, hp⟩
    by_cases hlt : i < wk.ds.length
    · refine .inr ⟨wl.go i _ wc fo hlt, Pv (i + 1), fun H' q => ⟨wk.ds.length - (i + 1), by omega, rfl, q⟩, fun v H' y => ?_⟩
      obtain ⟨ex, rv⟩ := wl.yld i _ _ wc v H' fo (List.getElem?_eq_getElem hlt) y
      have ny : Nx L.K L.mg (ZeD Ze D) wc ⟨wc.α, wc.φ, H'⟩ := nx_ext fo.ok ex
      have fo2 := fo.nx ny
      obtain ⟨hD2, nv2⟩ := vt_nx fo.ok hDc hZ ny
      have rs1 : RepS L.K L.mg (ZeD Ze D) ⟨wc.α, wc.φ, H'⟩ σ ρ := by
        have r0 := rs.nx ok n1.st
        refine ⟨r0.len, fun i s e => ?_⟩
        have q := r0.at' i s e
        cases s with
        | u => trivial
        | v d => obtain ⟨v, e1, r⟩ := q; exact ⟨v, e1, Rep.keeps (fo2.keeps n1.ok) r⟩
        | h j => obtain ⟨a, e1, q⟩ := q; exact ⟨a, adr_nx fo2.st e1, q⟩
      have rsw := rs1.wipe own
      rw [List.drop_eq_getElem_cons hlt] at hp
      simp only [compL] at hp
      rw [nox_bind] at hp
      have hp2 := post.bind (post.later nv2 hp)
      cases q : bindT t wk.ds[i] (wipeR ρ own) with
      | none =>
        have : one1 own t (fun ρ1 φ2 => evC G c ρ1 φ2) (fun ρ1 φ2 => ev G ielt ρ1 φ2) ρ wk.ds[i] wc.φ = .bad := by unfold one1; rw [q]
        rw [this] at hp2; exact hp2.elim
      | some ρ1 =>
        unfold one1 at hp2
        rw [q] at hp2
        have hp3 := post_vt (E' := W') fo2.ok hD2 hZ hp2
        refine sg (ZeD Ze D) ⟨wc.α, wc.φ, H'⟩ _ _ ρ1 v wk.ds[i] _ fo2.ok rsw rv q fun σ2 rs2 sb => ⟨wipe_same sb hsl, ?_⟩
        refine stt (ZeD Ze D) ⟨wc.α, wc.φ, H'⟩ σ2 ρ1 _ fo2.ok rs2 ((post.bind hp3).imp fun bb w3 n3 h3 => ?_)
        have fin : ∀ (w5 : Wd) (o : Option Ev.D), Fol L Ze w1 (ZeD Ze D) w5 → ∀ acc' dacc', w5.H D = some (.lst acc') → acc'.length ≤ i + 1 → Reps L.K L.mg w5.H (Z (ZeD Ze D) w5) acc' dacc' → Nx L.K L.mg Ze w1 (vt D w5) →
            (match o with | some x => dacc ++ [x] | none => dacc) = dacc' →
            post L.K L.mg Ze W (R.nox ((compL (one1 own t (fun ρ1 φ2 => evC G c ρ1 φ2) (fun ρ1 φ2 => ev G ielt ρ1 φ2) ρ) (wk.ds.drop (i + 1)) (vt D w5).φ).bind fun r φ2 => .ok (match o with | some x => x :: r | none => r) φ2)) (vt D w5)
              (fun r w' => ∃ w'', w''.H = w'.H ∧ w''.α = w'.α ∧ Z Ze w'' = Z Ze w' ∧ Nx L.K L.mg Ze w w'' ∧ NewAt L Ze w'' (.lst (dacc ++ r)) w'' Q) → Pv (i + 1) w5.H := by
          intro w5 o fo5 acc' dacc' hD5 hl5 r5 n5 ed hq
          refine ⟨hlt, w5, acc', dacc', rfl, hD5, hl5, fo5, r5, n5, ?_⟩
          rw [nox_bind] at hq
          refine (post.bind hq).imp fun r w' n' hk => ?_
          have hk' := post.here n'.ok hk
          cases o with
          | none => rw [← ed]; exact hk'
          | some x => rw [← ed]; simpa using hk'
        have n4 : Nx L.K L.mg (ZeD Ze D) wc w3 := ny.trans n3
        cases bb with
        | false =>
          simp only [Bool.false_eq_true, if_false] at h3 ⊢
          obtain ⟨hD3, h4⟩ := post.here n3.ok h3
          have hacc3 : Reps L.K L.mg w3.H (Z (ZeD Ze D) w3) acc dacc := racc.keeps (n4.st.keeps fo.ok)
          exact fin w3 none (fo.nx n4) acc dacc hD3 (by omega) hacc3 (nv.trans (vt_nx fo.ok hDc hZ n4).2) rfl h4
        | true =>
          simp only [if_true] at h3 ⊢
          refine se (ZeD Ze D) w3 σ2 ρ1 _ n3.ok (rs2.nx fo2.ok n3.st) ((post.bind h3).imp fun x w4 n5 h5 y r5 => ?_)
          obtain ⟨d, w5, n6, e6, r6, h6⟩ := frzX_post n5.ok r5 (post.bind h5)
          obtain ⟨hD5, h7⟩ := post.here n6.ok h6
          have n7 : Nx L.K L.mg (ZeD Ze D) wc w5 := (n4.trans n5).trans n6
          have hacc5 : Reps L.K L.mg w5.H (Z (ZeD Ze D) w5) acc dacc := racc.keeps (n7.st.keeps fo.ok)
          have fo5 := fo.nx n7
          rw [← e6]
          refine ⟨acc, hD5, by omega, ?_⟩
          -- the world behind the append
          have ne : ∀ (j : Nat) a, w5.α[j]? = some a → a ≠ D := fun j a e z => n6.ok.out j a e (.inr z)
          have ke : Keeps w5.H (upd w5.H D (.lst (acc ++ [y]))) (Z (ZeD Ze D) w5) (Z (ZeD Ze D) ⟨w5.α, w5.φ, upd w5.H D (.lst (acc ++ [y]))⟩) := by
            refine ⟨fun a o e n => ?_, fun a xs e => ?_, fun a o u e => ?_, fun a o _ n z => n z⟩
            · rw [upd_ne fun z => n (.inl (.inr z))]; exact e
            · rw [upd_ne fun z => by rw [z, hD5] at e; cases e]; exact e
            · rw [upd_ne fun z => by rw [z, hD5] at e; cases e]; exact e
          have ok6 : Ok L.K L.mg (ZeD Ze D) ⟨w5.α, w5.φ, upd w5.H D (.lst (acc ++ [y]))⟩ := by
            have th : ∀ b x, w5.H b = some x → ∃ u, upd w5.H D (.lst (acc ++ [y])) b = some u := fun b x e => by
              by_cases hb : b = D
              · rw [hb]; exact ⟨_, upd_same⟩
              · exact ⟨x, by rw [upd_ne hb]; exact e⟩
            refine ⟨n6.ok.len, n6.ok.nd, fun a z => ?_, fun j a e => ?_, n6.ok.out, fun j a o e1 e2 => ?_⟩
            · obtain ⟨o, h⟩ := n6.ok.dom a z; exact th a o h
            · obtain ⟨o, h⟩ := n6.ok.adom j a e; exact th a o h
            · exact (n6.ok.store j a o e1 e2).keepsL ke fun _ u h => by
                show upd w5.H D _ a = _
                rw [upd_ne (ne j a e1)]; exact h
          have st6 : Step w1 ⟨w5.α, w5.φ, upd w5.H D (.lst (acc ++ [y]))⟩ := by
            have nD : ∀ b o, w1.H b = some o → b ≠ D := fun b o e z => by rw [z, hD] at e; cases e
            refine ⟨fo5.st.pre, fun b o e l => ?_, fo5.st.live, fo5.st.lck, fun b o e => ?_⟩
            · show upd w5.H D _ b = _
              rw [upd_ne (nD b o e)]; exact fo5.st.keep b o e l
            · obtain ⟨o', h⟩ := fo5.st.there b o e
              exact ⟨o', by show upd w5.H D _ b = _; rw [upd_ne (nD b o e)]; exact h⟩
          have ev6 : vt D ⟨w5.α, w5.φ, upd w5.H D (.lst (acc ++ [y]))⟩ = vt D w5 := by
            have : (fun b => if b = D then none else upd w5.H D (.lst (acc ++ [y])) b) = fun b => if b = D then none else w5.H b := by
              funext b
              by_cases hb : b = D
              · rw [if_pos hb, if_pos hb]
              · rw [if_neg hb, if_neg hb, upd_ne hb]
            show Wd.mk w5.α w5.φ (fun b => if b = D then none else upd w5.H D (.lst (acc ++ [y])) b) = Wd.mk w5.α w5.φ (fun b => if b = D then none else w5.H b)
            rw [this]
          refine fin ⟨w5.α, w5.φ, upd w5.H D (.lst (acc ++ [y]))⟩ (some d) ⟨ok6, st6, fo5.le⟩ (acc ++ [y]) (dacc ++ [d]) upd_same (by rw [List.length_append]; simp; omega) ?_ ?_ rfl ?_
          · exact (hacc5.append (.cons r6 .nil)).keeps ke
          · rw [ev6]; exact nv.trans (vt_nx fo.ok hDc hZ n7).2
          · rw [ev6]; exact h7
    · have e : i = wk.ds.length := by omega
      subst e
      refine .inl ⟨wl.stop _ _ wc fo (Nat.le_refl _), ?_⟩
      rw [List.drop_length] at hp
      simp only [compL, R.nox_ok] at hp
      obtain ⟨w'', e1, e2, e3, n2, hn⟩ := post.here (vt_ok fo.ok hDc hZ) hp
      rw [List.append_nil] at hn
      have hn0 : w''.H D = none := by rw [e1]; show (if D = D then none else _) = none; rw [if_pos rfl]
      have rr : Reps L.K L.mg w''.H (Z Ze w'') acc dacc := by
        rw [e1, e3]
        exact racc.keeps (vt_keeps hDc hZ)
      have nn := nx_new (o := O.lst dacc) (p := D) (ho := .lst acc) n2.ok hn0 ⟨acc, rfl, rr⟩
      have eH : upd w''.H D (.lst acc) = wc.H := by
        funext b
        by_cases hb : b = D
        · rw [hb, upd_same]; exact hDc.symm
        · rw [upd_ne hb, e1]
          show (if b = D then none else wc.H b) = _
          rw [if_neg hb]
      rw [eH] at nn
      exact hn D _ nn
  · rw [if_neg hz] at h1; exact h1.elim
/-- what a block's parts are: the wish is that nothing is raised -/
abbrev WF : XK := fun _ _ _ => False
structure CompOk (L : Lw) (N : List Str) (sc : Scope) (ca : Str → Bool) (W : XK) (G : List FSem) (scope : Scope) (own : List (Str × Nat)) (tg iter : Expr) (ifs : List Expr) (elt : Expr) (t : Tg) (it : II) (c : Option IE) (ielt : IE) : Prop where
  si : SndI L N sc ca W tg iter (evI G it)
  sg : SndG L N (relS scope sc) (fun x => scope.names.lookup x == some .cell) WF tg t
  stt : SndC L N (relS scope sc) (fun x => scope.names.lookup x == some .cell) WF G ifs c
  se : SndE L N (relS scope sc) (fun x => scope.names.lookup x == some .cell) WF elt (ev G ielt)
  bk : blkC N sc scope own = true
  sl : ∀ i ∈ t.slots, i ∈ own.map (·.2)
  hs : ∀ env x, foldedSetIterable iter env x = pure x
theorem snf_comp {scope : Scope} {own : List (Str × Nat)} {ifs : List Expr} {t : Tg} {it : II} {c : Option IE} {ielt : IE} (h : CompOk L N sc ca W G scope own tg iter ifs elt t it c ielt) : SndF L N sc ca W (.ListComp elt [⟨tg, iter, ifs, 0⟩] scope pos) (evF G (.comp (own.map (·.2)) t it c ielt)) := by
  obtain ⟨⟨wi, pi, si⟩, ⟨g, pg, sg⟩, ⟨tt, pt, stt⟩, ⟨te, pe, se⟩, bk, sl, hs⟩ := h
  refine ⟨tLc wi g tt te (own.map (·.2)), fun X C => ?_, comp_read (W' := WF) si sg stt se sl⟩
  have bo := blkOk_by bk
  exact pe_lc C.calm C.nodup (pi X C) (by rw [C.eN, C.es]; exact bo) (fun s H Cc cl fp => pg _ (C.blk s H scope cl Cc fp)) (fun s H Cc cl fp => pt _ (C.blk s H scope cl Cc fp)) (fun s H Cc cl fp => pe _ (C.blk s H scope cl Cc fp)) (hs X.env)
/-- name = [..] on one line -/
theorem sns_lc {i : Nat} {y : Str} {py spos : Pos} {scope : Scope} {own : List (Str × Nat)} {ifs : List Expr} {t : Tg} {it : II} {c : Option IE} {ielt : IE} {ie : IE} (h : CompOk L N sc ca W G scope own tg iter ifs elt t it c ielt)
    (hie : ie = .new (.comp (own.map (·.2)) t it c ielt) ∨ ie = .frz (.comp (own.map (·.2)) t it c ielt)) (hy : locOk N sc i y = true) (hk : sc.kind = .function) (hl : (py.line == pos.line) = true) (ha : (scope.names.any fun (n, k) => n == y && (k == .local || k == .cell)) = false) :
    SndS L N sc ca W (.Assign [.Name y py] (.ListComp elt [⟨tg, iter, ifs, 0⟩] scope pos) spos) (ex1 G (.asg (.nm i) ie)) := by
  have hF := snf_comp (pos := pos) h
  obtain ⟨⟨wi, pi, si⟩, ⟨g, pg, sg⟩, ⟨tt, pt, stt⟩, ⟨te, pe, se⟩, bk, sl, hs⟩ := h
  have so := comp_read (W' := WF) si sg stt se sl
  have bo := blkOk_by bk
  have hi : i < N.length := by
    unfold locOk at hy
    simp only [Bool.and_eq_true, decide_eq_true_eq] at hy
    exact (List.getElem?_eq_some_iff.mp hy.1).1
  have soE : SoE L W (tLc wi g tt te (own.map (·.2))) (ev G ie) := by
    rcases hie with rfl | rfl
    · intro Ze w σ ρ Q ok rs h
      simp only [ev] at h
      refine so Ze w σ ρ _ ok rs ((post.bind h).imp fun o w1 n1 h1 p H' n2 => ?_)
      refine h1 _ rfl n2 _ ⟨p, ?_, rfl⟩
      show (w1.α ++ [p])[w1.φ.length]? = _
      rw [← n1.ok.len]
      simp
    · intro Ze w σ ρ Q ok rs h
      simp only [ev] at h
      refine so Ze w σ ρ _ ok rs ((post.bind h).imp fun o w1 n1 h1 p H' n2 => ?_)
      cases hd : o.toD with
      | none => rw [hd] at h1; exact h1.elim
      | some d =>
        rw [hd] at h1
        obtain ⟨n3, r⟩ := nx_drop n2 (Nat.le_refl _) hd
        exact h1 ⟨w1.α, w1.φ, H'⟩ rfl n3 _ r
  refine ⟨tAsg (tLc wi g tt te (own.map (·.2))) (gName i), fun X C => ?_, asg_nm (N := N) soE hi⟩
  obtain ⟨h1, h2, _⟩ := loc_of C hy
  exact ps_setLc C.calm C.nodup h1 h2 (sw_true (by rw [C.es]; exact hk) h2 hl ha) (pi X C) (by rw [C.eN, C.es]; exact bo) (fun s H Cc cl fp => pg _ (C.blk s H scope cl Cc fp)) (fun s H Cc cl fp => pt _ (C.blk s H scope cl Cc fp)) (fun s H Cc cl fp => pe _ (C.blk s H scope cl Cc fp)) (hs X.env)
/-- name = [..], not swapped -/
theorem sns_lc' {i : Nat} {x : Str} {py spos : Pos} {scope : Scope} {gs : List Comprehension} (he : SndE L N sc ca W (.ListComp elt gs scope pos) (ev G ie)) (h : tgtOk N sc ca i x = true) (hk : sc.kind = .function)
    (hn : (sc.names.lookup x == some .local && py.line == pos.line && !(scope.names.any fun (n, k) => n == x && (k == .local || k == .cell))) = false) :
    SndS L N sc ca W (.Assign [.Name x py] (.ListComp elt gs scope pos) spos) (ex1 G (.asg (.nm i) ie)) := by
  obtain ⟨ta, pa, sa⟩ := he
  refine ⟨tAsg ta (gName i), fun X C => ?_, asg_nm (N := N) sa ?_⟩
  · obtain ⟨h1, h2, h3⟩ := tgt_of C h
    refine ps_set C.nodup h1 h2 (pa X C) ?_ h3
    have hb : X.env.blockKind = .function := by unfold Env.blockKind; rw [C.es, hk]; rfl
    have hkx : X.env.kindOf x = sc.names.lookup x := by unfold Env.kindOf; rw [C.es]
    unfold swapsWith
    simp only [hb, hkx, Expr.pos]
    have e : ((ScopeKind.function == ScopeKind.function) && sc.names.lookup x == some .local && py.line == pos.line && !(scope.names.any fun (n, k) => n == x && (k == .local || k == .cell))) = false := by
      rw [show (ScopeKind.function == ScopeKind.function) = true from rfl, Bool.true_and]; exact hn
    show pure _ = pure false
    exact congrArg pure e
  · unfold tgtOk at h
    simp only [Bool.and_eq_true, decide_eq_true_eq] at h
    exact (List.getElem?_eq_some_iff.mp h.1).1
end
end Ev
/-! Part O: calls. -/
namespace Ev
open PySem PySem.Spec PyProof.Rows L2
/-! ### lists of places -/
theorem puts_length : ∀ (φ : List O) (js : List Nat) (ψ : List O), (puts φ js ψ).length = φ.length
  | _, [], _ => by simp [puts]
  | _, _ :: _, [] => by simp [puts]
  | φ, j :: js, o :: ψ => by
    show (puts (φ.set j o) js ψ).length = _
    rw [puts_length, List.length_set]
theorem puts_out {j : Nat} : ∀ {φ : List O} {js : List Nat} {ψ : List O}, j ∉ js → (puts φ js ψ)[j]? = φ[j]?
  | _, [], _, _ => by simp [puts]
  | _, _ :: _, [], _ => by simp [puts]
  | φ, i :: js, o :: ψ, h => by
    show (puts (φ.set i o) js ψ)[j]? = _
    rw [puts_out fun z => h (List.mem_cons_of_mem _ z)]
    exact List.getElem?_set_ne fun z => h (by rw [z]; exact List.mem_cons_self)
theorem puts_in {j : Nat} {o : O} : ∀ {φ : List O} {js : List Nat} {ψ : List O} {i : Nat}, js.Nodup → js[i]? = some j → ψ[i]? = some o → j < φ.length → (puts φ js ψ)[j]? = some o
  | _, [], _, _, _, h, _, _ => by simp at h
  | _, _ :: _, [], _, _, _, h, _ => by simp at h
  | φ, i :: js, o' :: ψ, 0, nd, h1, h2, hl => by
    simp only [List.getElem?_cons_zero, Option.some.injEq] at h1 h2
    subst h1 h2
    show (puts (φ.set i o') js ψ)[i]? = _
    rw [puts_out (List.nodup_cons.mp nd).1]
    exact List.getElem?_set_self hl
  | φ, i :: js, o' :: ψ, n + 1, nd, h1, h2, hl => by
    show (puts (φ.set i o') js ψ)[j]? = _
    exact puts_in (i := n) (List.nodup_cons.mp nd).2 (by simpa using h1) (by simpa using h2) (by rw [List.length_set]; exact hl)
theorem pick_spec : ∀ {φ : List O} {js : List Nat} {ψ : List O}, pick φ js = some ψ → ψ.length = js.length ∧ ∀ (i j : Nat), js[i]? = some j → ∃ o, φ[j]? = some o ∧ ψ[i]? = some o
  | _, [], _, h => by cases h; exact ⟨rfl, fun i j e => by simp at e⟩
  | φ, j :: js, ψ, h => by
    unfold pick at h
    cases q : φ[j]? with
    | none => rw [q] at h; cases h
    | some o =>
      rw [q] at h
      cases q2 : pick φ js with
      | none => rw [q2] at h; cases h
      | some os =>
        rw [q2] at h; cases h
        obtain ⟨h1, h2⟩ := pick_spec q2
        refine ⟨by simp [h1], fun i k e => ?_⟩
        cases i with
        | zero => simp only [List.getElem?_cons_zero, Option.some.injEq] at e; subst e; exact ⟨o, q, rfl⟩
        | succ i => obtain ⟨o', e1, e2⟩ := h2 i k (by simpa using e); exact ⟨o', e1, by simpa using e2⟩
section
variable {L : Lw} {N : List Str} {sc : Scope} {ca : Str → Bool} {W : XK} {Ze Zc : Addr → Prop} {w w0 w1 w2 w' wc wc' : Wd} {σ : SS} {ρ ρ' : List Sl}
theorem resX_rep (ok : Ok L.K L.mg Ze w) {v : V} {x : X1} (r : RepX L.K L.mg Ze w v x) : RepX L.K L.mg Ze w v (resX w.φ x) := by
  cases x with
  | v d => exact r
  | h j =>
    show RepX L.K L.mg Ze w v (match w.φ[j]? with | some (.frz d) => .v d | _ => .h j)
    split
    · rename_i d q
      obtain ⟨a, e, rfl⟩ := r
      exact ok.store j a _ e q
    · exact r
theorem resXs_rep (ok : Ok L.K L.mg Ze w) : ∀ {vs : List V} {xs : List X1}, RepXs L.K L.mg Ze w vs xs → RepXs L.K L.mg Ze w vs (xs.map (resX w.φ))
  | _, _, .nil => .nil
  | _, _, .cons r t => .cons (resX_rep ok r) (resXs_rep ok t)
theorem hsOf_live {φ : List O} : ∀ {xs : List X1} {j : Nat} {o : O}, j ∈ hsOf (xs.map (resX φ)) → φ[j]? = some o → o.live = true
  | [], _, _, h, _ => by simp [hsOf] at h
  | x :: xs, j, o, h, e => by
    rw [List.map_cons] at h
    cases q : resX φ x with
    | v d => rw [q] at h; exact hsOf_live (xs := xs) h e
    | h k =>
      rw [q] at h
      rcases List.mem_cons.mp h with z | z
      · subst z
        unfold resX at q
        split at q
        · cases q
        · rename_i k' 
          split at q
          · cases q
          · rename_i hn
            cases q
            cases o with
            | frz d => exact absurd e (hn d)
            | _ => rfl
      · exact hsOf_live (xs := xs) z e
theorem hsOf_adr : ∀ {vs : List V} {xs : List X1}, RepXs L.K L.mg Ze w vs xs → ∀ j ∈ hsOf xs, ∃ a, w.α[j]? = some a
  | _, _, .nil, j, h => by simp [hsOf] at h
  | _, _, .cons (x := .v d) r t, j, h => hsOf_adr t j h
  | _, _, .cons (x := .h k) r t, j, h => by
    rcases List.mem_cons.mp h with z | z
    · subst z; obtain ⟨a, e, _⟩ := r; exact ⟨a, e⟩
    · exact hsOf_adr t j z
/-- the addresses at the places js -/
def adrs (α : List Addr) (js : List Nat) : List Addr := js.map fun j => (α[j]?).getD 0
theorem adrs_get {α : List Addr} {js : List Nat} (h : ∀ j ∈ js, ∃ a, α[j]? = some a) {i : Nat} {a : Addr} : (adrs α js)[i]? = some a ↔ ∃ j, js[i]? = some j ∧ α[j]? = some a := by
  unfold adrs
  rw [List.getElem?_map]
  constructor
  · intro e
    cases q : js[i]? with
    | none => rw [q] at e; cases e
    | some j =>
      rw [q] at e
      obtain ⟨b, hb⟩ := h j (List.mem_of_getElem? q)
      simp only [Option.map_some, Option.some.injEq, hb, Option.getD_some] at e
      exact ⟨j, rfl, by rw [hb, e]⟩
  · rintro ⟨j, e1, e2⟩
    rw [e1, Option.map_some, e2]; rfl
theorem nodup_mapOn {f : Nat → Addr} : ∀ {js : List Nat}, js.Nodup → (∀ i ∈ js, ∀ j ∈ js, f i = f j → i = j) → (js.map f).Nodup
  | [], _, _ => List.nodup_nil
  | j :: js, h, g => List.nodup_cons.mpr ⟨fun m => by
      obtain ⟨i, hi, e⟩ := List.mem_map.mp m
      have := g i (List.mem_cons_of_mem _ hi) j List.mem_cons_self e
      rw [this] at hi
      exact (List.nodup_cons.mp h).1 hi, nodup_mapOn (List.nodup_cons.mp h).2 fun i hi k hk => g i (List.mem_cons_of_mem _ hi) k (List.mem_cons_of_mem _ hk)⟩
/-- what is true of a call: the handles js are handed on -/
structure Hand (L : Lw) (Ze : Addr → Prop) (w : Wd) (js : List Nat) (φc : List O) : Prop where
  ok : Ok L.K L.mg Ze w
  nd : js.Nodup
  al : ∀ j ∈ js, ∃ a, w.α[j]? = some a
  pk : pick w.φ js = some φc
  lv : ∀ j ∈ js, ∀ o, w.φ[j]? = some o → o.live = true
def hz_ (Ze : Addr → Prop) (w : Wd) (js : List Nat) : Addr → Prop := fun a => Z Ze w a ∧ a ∉ adrs w.α js
def hw_ (w : Wd) (js : List Nat) (φc : List O) : Wd := ⟨adrs w.α js, φc, w.H⟩
variable {js : List Nat} {φc : List O}
theorem adr_inj (ok : Ok L.K L.mg Ze w) {i j : Nat} {a : Addr} (h1 : w.α[i]? = some a) (h2 : w.α[j]? = some a) : i = j := by
  obtain ⟨l1, g1⟩ := List.getElem?_eq_some_iff.mp h1
  obtain ⟨l2, g2⟩ := List.getElem?_eq_some_iff.mp h2
  exact (List.getElem_inj ok.nd).mp (g1.trans g2.symm)
theorem Hand.mem (h : Hand L Ze w js φc) {a : Addr} : a ∈ adrs w.α js ↔ ∃ j ∈ js, w.α[j]? = some a := by
  constructor
  · intro m
    obtain ⟨i, hi⟩ := List.mem_iff_getElem?.mp m
    obtain ⟨j, e1, e2⟩ := (adrs_get h.al).mp hi
    exact ⟨j, List.mem_of_getElem? e1, e2⟩
  · rintro ⟨j, m, e⟩
    obtain ⟨i, hi⟩ := List.mem_iff_getElem?.mp m
    exact List.mem_of_getElem? ((adrs_get h.al).mpr ⟨j, hi, e⟩)
theorem Hand.live (h : Hand L Ze w js φc) {a : Addr} : Live (hw_ w js φc) a ↔ a ∈ adrs w.α js := by
  obtain ⟨hl, hp⟩ := pick_spec h.pk
  constructor
  · rintro ⟨i, o, e1, _, _⟩
    exact List.mem_of_getElem? e1
  · intro m
    obtain ⟨i, hi⟩ := List.mem_iff_getElem?.mp m
    obtain ⟨j, e1, e2⟩ := (adrs_get h.al).mp hi
    obtain ⟨o, e3, e4⟩ := hp i j e1
    exact ⟨i, o, hi, e4, h.lv j (List.mem_of_getElem? e1) o e3⟩
theorem Hand.sub (h : Hand L Ze w js φc) {a : Addr} (m : a ∈ adrs w.α js) : Live w a := by
  obtain ⟨j, hj, e⟩ := h.mem.mp m
  obtain ⟨l, _⟩ := List.getElem?_eq_some_iff.mp e
  have l2 : j < w.φ.length := by rw [← h.ok.len]; exact l
  exact ⟨j, w.φ[j], e, List.getElem?_eq_getElem l2, h.lv j hj _ (List.getElem?_eq_getElem l2)⟩
theorem Hand.zone (h : Hand L Ze w js φc) : Z (hz_ Ze w js) (hw_ w js φc) = Z Ze w := by
  funext a
  apply propext
  constructor
  · rintro (z | z)
    · exact z.1
    · exact .inr (h.sub (h.live.mp z))
  · intro z
    by_cases m : a ∈ adrs w.α js
    · exact .inr (h.live.mpr m)
    · exact .inl ⟨z, m⟩
theorem Hand.okc (h : Hand L Ze w js φc) : Ok L.K L.mg (hz_ Ze w js) (hw_ w js φc) := by
  obtain ⟨hl, hp⟩ := pick_spec h.pk
  refine ⟨by show (adrs w.α js).length = φc.length; rw [hl]; unfold adrs; simp, ?_, fun a z => ?_, fun i a e => ?_, fun i a e z => z.2 (List.mem_of_getElem? e), fun i a o e1 e2 => ?_⟩
  · show (adrs w.α js).Nodup
    refine nodup_mapOn h.nd fun i hi j hj e => ?_
    obtain ⟨x, hx⟩ := h.al i hi
    obtain ⟨y, hy⟩ := h.al j hj
    rw [hx, hy] at e
    have e' : x = y := e
    rw [e'] at hx
    exact adr_inj h.ok hx hy
  · rcases z.1 with z | ⟨j, o, e1, _, _⟩
    · exact h.ok.dom a z
    · exact h.ok.adom j a e1
  · obtain ⟨j, _, e2⟩ := (adrs_get h.al).mp e
    exact h.ok.adom j a e2
  · rw [h.zone]
    obtain ⟨j, e3, e4⟩ := (adrs_get h.al).mp e1
    obtain ⟨o', e5, e6⟩ := hp i j e3
    change φc[i]? = some o at e2
    rw [e6] at e2; cases e2
    exact h.ok.store j a _ e4 e5
theorem Hand.reps (h : Hand L Ze w js φc) : ∀ {vs : List V} {ys : List X1} {n : Nat}, RepXs L.K L.mg Ze w vs ys → hsOf ys = js.drop n → RepXs L.K L.mg (hz_ Ze w js) (hw_ w js φc) vs (renum ys n)
  | _, _, _, .nil, _ => .nil
  | _, _, n, .cons (x := .v d) r t, e => .cons (by show Rep _ _ _ _ _ _; rw [h.zone]; exact r) (h.reps t e)
  | _, _, n, .cons (x := .h j) (xs := ys) r t, e => by
    have e' : j :: hsOf ys = js.drop n := e
    have hl : n < js.length := by
      have := congrArg List.length e'
      simp at this
      omega
    rw [List.drop_eq_getElem_cons hl] at e'
    obtain ⟨e1, e2⟩ := List.cons.inj e'
    obtain ⟨a, ea, ev⟩ := r
    refine .cons ⟨a, (adrs_get h.al).mpr ⟨j, ?_, ea⟩, ev⟩ (h.reps t e2)
    rw [List.getElem?_eq_getElem hl, e1]
/-- behind a call: the callee's world, seen from here; αx, φx: what is new and kept -/
theorem Hand.back (h : Hand L Ze w js φc) (n : Nx L.K L.mg (hz_ Ze w js) (hw_ w js φc) wc') {αx : List Addr} {φx : List O} (hx : αx.length = φx.length) (ndx : αx.Nodup)
    (hxs : ∀ (i : Nat) a, αx[i]? = some a → ∃ k, js.length ≤ k ∧ wc'.α[k]? = some a ∧ ∀ o, φx[i]? = some o → wc'.φ[k]? = some o) :
    Nx L.K L.mg Ze w ⟨w.α ++ αx, puts w.φ js wc'.φ ++ φx, wc'.H⟩ ∧ ∀ a, Z Ze ⟨w.α ++ αx, puts w.φ js wc'.φ ++ φx, wc'.H⟩ a → Z (hz_ Ze w js) wc' a := by
  have okc := h.okc
  obtain ⟨hl, hp⟩ := pick_spec h.pk
  obtain ⟨β, eβ, fβ⟩ := n.st.pre
  have eβ' : wc'.α = adrs w.α js ++ β := eβ
  have la : (adrs w.α js).length = js.length := by unfold adrs; simp
  have lc : js.length ≤ wc'.φ.length := by rw [← n.ok.len, eβ', List.length_append, la]; omega
  have pl : (puts w.φ js wc'.φ).length = w.α.length := by rw [puts_length, h.ok.len]
  have isx : ∀ (k : Nat) a, js.length ≤ k → wc'.α[k]? = some a → w.H a = none := fun k a hk e => by
    rw [eβ', List.getElem?_append_right (by rw [la]; exact hk)] at e
    exact fβ a (List.mem_of_getElem? e)
  have atj : ∀ (i j : Nat) a, js[i]? = some j → w.α[j]? = some a → wc'.α[i]? = some a := fun i j a e1 e2 => by
    have := (adrs_get h.al).mpr ⟨j, e1, e2⟩
    rw [eβ', List.getElem?_append_left (List.getElem?_eq_some_iff.mp this).1]; exact this
  -- a place of the new world
  have look : ∀ (i : Nat) a o, (w.α ++ αx)[i]? = some a → (puts w.φ js wc'.φ ++ φx)[i]? = some o →
      (∃ m : Nat, js[m]? = some i ∧ w.α[i]? = some a ∧ wc'.α[m]? = some a ∧ wc'.φ[m]? = some o) ∨ (i ∉ js ∧ w.α[i]? = some a ∧ w.φ[i]? = some o ∧ a ∉ adrs w.α js) ∨ (∃ k : Nat, js.length ≤ k ∧ wc'.α[k]? = some a ∧ wc'.φ[k]? = some o) := by
    intro i a o e1 e2
    by_cases hi : i < w.α.length
    · rw [List.getElem?_append_left hi] at e1
      rw [List.getElem?_append_left (by rw [pl]; exact hi)] at e2
      by_cases hj : i ∈ js
      · obtain ⟨m, hm⟩ := List.mem_iff_getElem?.mp hj
        have hml : m < wc'.φ.length := Nat.lt_of_lt_of_le (List.getElem?_eq_some_iff.mp hm).1 lc
        have := puts_in (φ := w.φ) (ψ := wc'.φ) h.nd hm (List.getElem?_eq_getElem hml) (by rw [← h.ok.len]; exact hi)
        rw [e2] at this
        exact .inl ⟨m, hm, e1, atj m i a hm e1, by rw [List.getElem?_eq_getElem hml]; exact this.symm⟩
      · rw [puts_out hj] at e2
        refine .inr (.inl ⟨hj, e1, e2, fun z => hj ?_⟩)
        obtain ⟨j, hj', e⟩ := h.mem.mp z
        rw [adr_inj h.ok e1 e]; exact hj'
    · rw [List.getElem?_append_right (by omega)] at e1
      rw [List.getElem?_append_right (by rw [pl]; omega), pl] at e2
      obtain ⟨k, hk, e3, e4⟩ := hxs _ a e1
      exact .inr (.inr ⟨k, hk, e3, e4 o e2⟩)
  have zle : ∀ a, Z Ze ⟨w.α ++ αx, puts w.φ js wc'.φ ++ φx, wc'.H⟩ a → Z (hz_ Ze w js) wc' a := by
    rintro a (z | ⟨i, o, e1, e2, e3⟩)
    · refine .inl ⟨.inl z, fun m => ?_⟩
      obtain ⟨j, _, e⟩ := h.mem.mp m
      exact h.ok.out j a e z
    · rcases look i a o e1 e2 with ⟨m, _, _, g1, g2⟩ | ⟨_, g1, g2, g3⟩ | ⟨k, _, g1, g2⟩
      · exact .inr ⟨m, o, g1, g2, e3⟩
      · exact .inl ⟨.inr ⟨i, o, g1, g2, e3⟩, g3⟩
      · exact .inr ⟨k, o, g1, g2, e3⟩
  have ke0 := n.st.keeps okc
  rw [h.zone] at ke0
  have ke : Keeps w.H wc'.H (Z Ze w) (Z Ze ⟨w.α ++ αx, puts w.φ js wc'.φ ++ φx, wc'.H⟩) := ⟨ke0.fix, ke0.tup, ke0.frz, fun a o e nz z => ke0.zone a o e nz (zle a z)⟩
  have kz : Keeps wc'.H wc'.H (Z (hz_ Ze w js) wc') (Z Ze ⟨w.α ++ αx, puts w.φ js wc'.φ ++ φx, wc'.H⟩) := Keeps.zoneLe zle
  refine ⟨⟨⟨?_, ?_, fun a z => ?_, fun i a e => ?_, fun i a e z => ?_, fun i a o e1 e2 => ?_⟩, ⟨⟨αx, rfl, fun b hb => ?_⟩, fun b o e l => ?_, fun b l => ?_, fun j ds e => ?_, fun b o e => n.st.there b o e⟩⟩, zle⟩
  · show (w.α ++ αx).length = (puts w.φ js wc'.φ ++ φx).length
    rw [List.length_append, List.length_append, pl, hx]
  · show (w.α ++ αx).Nodup
    rw [List.nodup_append]
    refine ⟨h.ok.nd, ndx, fun a ha b hb e => ?_⟩
    subst e
    obtain ⟨i, hi⟩ := List.mem_iff_getElem?.mp hb
    obtain ⟨k, hk, e3, _⟩ := hxs i a hi
    obtain ⟨j, hj⟩ := List.mem_iff_getElem?.mp ha
    obtain ⟨o, ho⟩ := h.ok.adom j a hj
    rw [isx k a hk e3] at ho; cases ho
  · obtain ⟨o, e⟩ := h.ok.dom a z
    exact n.st.there a o e
  · change (w.α ++ αx)[i]? = some a at e
    by_cases hi : i < w.α.length
    · rw [List.getElem?_append_left hi] at e
      obtain ⟨o, e'⟩ := h.ok.adom i a e
      exact n.st.there a o e'
    · rw [List.getElem?_append_right (by omega)] at e
      obtain ⟨k, _, e3, _⟩ := hxs _ a e
      exact n.ok.adom k a e3
  · change (w.α ++ αx)[i]? = some a at e
    by_cases hi : i < w.α.length
    · rw [List.getElem?_append_left hi] at e
      exact h.ok.out i a e z
    · rw [List.getElem?_append_right (by omega)] at e
      obtain ⟨k, hk, e3, _⟩ := hxs _ a e
      obtain ⟨o, ho⟩ := h.ok.dom a z
      rw [isx k a hk e3] at ho; cases ho
  · rcases look i a o e1 e2 with ⟨m, _, _, g1, g2⟩ | ⟨_, g1, g2, g3⟩ | ⟨k, _, g1, g2⟩
    · exact (n.ok.store m a o g1 g2).keepsL kz fun _ _ q => q
    · refine (h.ok.store i a o g1 g2).keepsL ke fun _ u q => ?_
      exact n.st.keep a u q fun l => g3 (h.live.mp l)
    · exact (n.ok.store k a o g1 g2).keepsL kz fun _ _ q => q
  · obtain ⟨i, hi⟩ := List.mem_iff_getElem?.mp hb
    obtain ⟨k, hk, e3, _⟩ := hxs i b hi
    exact isx k b hk e3
  · exact n.st.keep b o e fun z => l (h.sub (h.live.mp z))
  · obtain ⟨i, o, e1, e2, e3⟩ := l
    rcases look i b o e1 e2 with ⟨m, _, _, g1, g2⟩ | ⟨_, g1, g2, g3⟩ | ⟨k, hk, g1, g2⟩
    · rcases n.st.live b ⟨m, o, g1, g2, e3⟩ with z | z
      · exact .inl (h.sub (h.live.mp z))
      · exact .inr z
    · exact .inl ⟨i, o, g1, g2, e3⟩
    · exact .inr (isx k b hk g1)
  · have hjl : j < w.φ.length := (List.getElem?_eq_some_iff.mp e).1
    show (puts w.φ js wc'.φ ++ φx)[j]? = _
    rw [List.getElem?_append_left (by rw [puts_length]; exact hjl)]
    by_cases hj : j ∈ js
    · obtain ⟨m, hm⟩ := List.mem_iff_getElem?.mp hj
      obtain ⟨o, e1, e2⟩ := hp m j hm
      rw [e] at e1; cases e1
      exact puts_in h.nd hm (n.st.lck m ds e2) hjl
    · rw [puts_out hj]; exact e
/-- what a def promises by its evaluator -/
def spF (K : PySem.W.Frag) (mg : Str → Option Value) (F : FSem) : Sp := fun vs H Q E => ∃ (Zc : Addr → Prop) (wc : Wd) (xs : List X1), wc.H = H ∧ Ok K mg Zc wc ∧ RepXs K mg Zc wc vs xs ∧ post K mg Zc E (F xs wc.φ) wc (fun x w' => ∀ v, RepX K mg Zc w' v x → Q v w'.H)
theorem call_read {F : FSem} {xs : List X1} {vs : List V} {Q : VK} (ok : Ok L.K L.mg Ze w) (rx : RepXs L.K L.mg Ze w vs xs) (h : post L.K L.mg Ze W (callX F xs w.φ) w (fun x w' => ∀ v, RepX L.K L.mg Ze w' v x → Q v w'.H)) : spF L.K L.mg F vs w.H Q W := by
  unfold callX at h
  simp only at h
  have ry := resXs_rep ok rx
  generalize hys : xs.map (resX w.φ) = ys at h ry
  have lv : ∀ j ∈ hsOf ys, ∀ o, w.φ[j]? = some o → o.live = true := fun j hj o e => hsOf_live (by rw [hys]; exact hj) e
  generalize hjs : hsOf ys = js at h lv
  split at h
  · rename_i nd
    cases pk : pick w.φ js with
    | none => rw [pk] at h; exact h.elim
    | some φc =>
      rw [pk] at h
      simp only at h
      have hd : Hand L Ze w js φc := ⟨ok, nd, fun j hj => hsOf_adr ry j (by rw [hjs]; exact hj), pk, lv⟩
      refine ⟨hz_ Ze w js, hw_ w js φc, renum ys 0, rfl, hd.okc, hd.reps ry (by rw [List.drop_zero]; exact hjs), ?_⟩
      change post L.K L.mg (hz_ Ze w js) W (F (renum ys 0) φc) (hw_ w js φc) _
      have back0 : ∀ wc', Nx L.K L.mg (hz_ Ze w js) (hw_ w js φc) wc' → Nx L.K L.mg Ze w ⟨w.α, puts w.φ js wc'.φ, wc'.H⟩ ∧ ∀ a, Z Ze ⟨w.α, puts w.φ js wc'.φ, wc'.H⟩ a → Z (hz_ Ze w js) wc' a := fun wc' n => by
        have := hd.back n (αx := []) (φx := []) rfl List.nodup_nil (fun i a e => by simp at e)
        simpa using this
      cases hF : F (renum ys 0) φc with
      | bad => rw [hF] at h; exact h.elim
      | exc c d φ' =>
        rw [hF] at h
        intro wc' cls a e n q
        subst e
        obtain ⟨n', zl⟩ := back0 wc' n
        obtain ⟨C, ad, v, h1, h2, h3, h4, h5⟩ := q
        exact h ⟨w.α, puts w.φ js wc'.φ, wc'.H⟩ cls a rfl n' ⟨C, ad, v, h1, h2, h3, h4, Rep.keeps (Keeps.zoneLe zl) h5⟩
      | ok x φ' =>
        rw [hF] at h
        intro wc' e n v r
        subst e
        obtain ⟨n', zl⟩ := back0 wc' n
        cases x with
        | v d => exact h ⟨w.α, puts w.φ js wc'.φ, wc'.H⟩ rfl n' v (Rep.keeps (Keeps.zoneLe zl) r)
        | h k =>
          obtain ⟨a, ea, rfl⟩ := r
          simp only at h
          split at h
          · rename_i hk
            rw [List.getElem?_eq_getElem hk] at h
            simp only at h
            refine h ⟨w.α, puts w.φ js wc'.φ, wc'.H⟩ rfl n' _ ⟨a, ?_, rfl⟩
            obtain ⟨b, hb⟩ := hd.al js[k] (List.getElem_mem hk)
            obtain ⟨β, eβ, _⟩ := n.st.pre
            have eβ' : wc'.α = adrs w.α js ++ β := eβ
            have e1 := (adrs_get hd.al).mpr ⟨js[k], List.getElem?_eq_getElem hk, hb⟩
            rw [eβ', List.getElem?_append_left (List.getElem?_eq_some_iff.mp e1).1, e1] at ea
            cases ea
            exact hb
          · split at h
            · rename_i hk2 hk
              cases qo : wc'.φ[k]? with
              | none => rw [qo] at h; exact h.elim
              | some o =>
                rw [qo] at h
                simp only at h
                have hb := hd.back n (αx := [a]) (φx := [o]) rfl (by simp) (fun i b e => by
                  cases i with
                  | zero => cases e; exact ⟨k, by omega, ea, fun o' e' => by cases e'; exact qo⟩
                  | succ i => simp at e)
                refine h ⟨w.α ++ [a], puts w.φ js wc'.φ ++ [o], wc'.H⟩ rfl hb.1 _ ⟨a, ?_, rfl⟩
                show (w.α ++ [a])[w.φ.length]? = _
                rw [← ok.len]
                simp
            · exact h.elim
  · exact h.elim
end
end Ev
/-! Part P: defs by their evaluator; the law's end. (fnG_of, law_callG, walk_ofG: HandS's rules, with the guards of repr known.) -/
namespace Ev
open PySem PySem.Spec PyProof.Rows L2
structure FnG (P : Program) (w : World) (K : PySem.W.Frag) (mg : Str → Option Value) (base : Heap) (CX : CXT) (k : Nat) (f : Addr) (fd : FuncData) (ps : List Str) (sp : Sp) : Prop where
  len : ∀ vs H Q E, sp vs H Q E → vs.length = ps.length
  run : ∀ (A : Around) (outer : List Env) (s : Shared) (H : Hp) (args : Args) (us : List Value) (vs : List V) (Q : VK) (E : XK), Room k A → A.guards = some [] → Env0 P w K mg base A outer s H → BindsTo s fd args (ps.zip us) → Vals vs us → sp vs H Q E →
    codeAny (model P w) A (.call (.ref f) args) (CR CX outer P w H s Q E) s
/-- THE RULE: a def (or a method) of the text, by its body. The body's reading t is chosen for each entry; it is run at the parameters' values -/
theorem fnG_of {CX : CXT} {P : Program} {w : World} {K : PySem.W.Frag} {mg : Str → Option Value} {base : Heap} {k : Nat} {f : Addr} {name qual : Str} {params : Arguments} {body : List Stmt} {scope : Scope} {dV kV doc pm cdv ct oc : Value} {an od : Option Addr}
    {osl : Array (Option Value)} {N ps : List Str} {sp : Sp} (lk : K.lookup f = some ⟨oc, od, .func (PySem.W.fnOf name qual params body scope dV kV doc pm an cdv ct), osl⟩) (hcd : PySem.W.codeIn K cdv qual = true) (S : FnScope N ps scope)
    (len : ∀ vs H Q E, sp vs H Q E → vs.length = ps.length)
    (hbody : ∀ (A : Around) (outer : List Env) (s : Shared) (H : Hp) (vs : List V) (Q : VK) (E : XK), Room k (A.deeper (envOfC qual scope s.heap.objs.size f cdv)) → (A.deeper (envOfC qual scope s.heap.objs.size f cdv)).guards = some [] → sp vs H Q E →
      ∃ t, PSs (cxOf CX P w K mg base N qual scope f cdv A outer s H E) body t ∧ t { nx := fun _ H' => Q .non H', rt := Q } (start N vs) H) :
    FnG P w K mg base CX (k + 1) f (PySem.W.fnOf name qual params body scope dV kV doc pm an cdv ct) ps sp := by
  refine ⟨len, fun A outer s H args us vs Q E hr hgd e0 hb r hsp => ?_⟩
  have hl := len _ _ _ _ hsp
  have KX : K.In s.heap := e0.mod.kin.keeps fun b o e => (e0.bs b o e).1
  have lim : s.heap.NoLimit := e0.mod.nolimit.keeps fun b o e => (e0.bs b o e).1
  have hkind : ∀ y ∈ ps.zip us, scope.names.lookup y.1 = some .local ∨ (scope.names.lookup y.1 = some .cell ∧ ((cellsFrom (s.heap.objs.size + 1) scope.names []).lookup y.1).isSome = true) := fun ⟨n, v⟩ hy => by
    rcases S.par n (List.of_mem_zip hy).1 with q | q
    · exact .inl q
    · exact .inr ⟨q, PySem.W.cellsFrom_some _ _ _ (.inl q)⟩
  refine codeAny_call_function hr.depth (KX _ _ lk) rfl S.co S.gen rfl (PySem.W.codeRec_of KX hcd) (hb _ _ _ _ ?_)
  refine wpAny_newFunctionEnv_cells S.kind hkind fun env he s1 x => ?_
  subst he
  refine ⟨lim.keeps x.toInCall.keep, codeAny_func ?_⟩
  obtain ⟨t, ht, hq⟩ := hbody A outer s H vs Q E (hr.deeper _) hgd hsp
  have I : Inv (cxOf CX P w K mg base N qual scope f cdv A outer s H E) [] (start N vs) H s1 := inv_start S hr.hd e0 hl r x
  refine wpAny_mono (ht.run [] s1 (start N vs) H _ I hq) (fun fl s' hs => ?_) fun e s' hs => hs
  have fin : ∀ {σ' : SS} {H' : Hp} {v : V} {u : Value}, Inv (cxOf CX P w K mg base N qual scope f cdv A outer s H E) [] σ' H' s' → RelV v u → Q v H' → CE outer P w H s Q u s' :=
    fun {σ' H' v u} J rv q => ⟨v, H', J.os, J.bare, J.base, J.hok, rv, q⟩
  cases fl with
  | ret u =>
    obtain ⟨v, σ', H', J, rv, q⟩ := hs
    exact fin J rv q
  | next =>
    obtain ⟨σ', H', J, q⟩ := hs
    exact fin (v := V.non) (u := Value.none) J rfl q
  | brk =>
    obtain ⟨_, _, _, q⟩ := hs
    exact False.elim q
  | cont =>
    obtain ⟨_, _, _, q⟩ := hs
    exact False.elim q
abbrev Only := L2.Only
/-- THE HEAD: the law's promise, at the heap behind the top. F, the promise of the law's def, may use that base is part of the heap (so K.In base, base.Ns mainGlobals mg stand in Mod) -/
theorem law_callG {P : Program} {w : World} {K : PySem.W.Frag} {mg mb : Str → Option Value} {CX : CXT} {k : Nat} {fa a : Addr} {fd : FuncData} {x : Str} {sp : Sp} {s₁ : Shared} {vs : List Value} {ns : List Int}
    (KX : K.In s₁.heap) (hns : s₁.heap.Ns mainGlobals mg) (hb : s₁.heap.Ns builtinsNs mb) (hbb : ∀ x : Str, x ≠ "__name__" → mb x = bootBuiltins x) (hlim : s₁.heap.NoLimit) (hg : s₁.gens = #[])
    (ha : s₁.heap.get? a = some { cls := .type "list", data := .seq vs.toArray }) (hi : IntsAre vs ns) (hl : ns.length ≤ sizeLine) (hr : Room k callerA)
    (F : ∀ base : Heap, K.In base → base.Ns mainGlobals mg → FnG P w K mg base CX k fa fd [x] sp) (hbind : ∀ (s : Shared) (u : Value), BindsTo s fd ⟨[u], []⟩ [(x, u)])
    (hsp : ∀ H : Hp, Only H → SqL K H a (ns.map V.int) → sp [.ref a] H (fun v _ => v = .bl true) fun _ _ _ => False)
    (hCX : ∀ H e s', CX [] H s₁ (fun _ _ _ => False) e s' → False) :
    codeAny (model P w) callerA (.call (.ref fa) ⟨[.ref a], []⟩) (fun r s' => r = .ok (.ret (.bool true)) ∧ OldK s₁.heap s'.heap ∧ s'.os = s₁.os ∧ AllBare s'.gens) s₁ := by
  have rv := vals_ints hi
  have lenV := hi.length
  -- from an abstract heap in which nothing but the script may be tracked
  have core : ∀ H : Hp, Only H → SqL K H a (ns.map V.int) → HOk P w H s₁.heap → (∀ b, H b ≠ none → b = a) → (H a ≠ none → K.lookup a = none) →
      codeAny (model P w) callerA (.call (.ref fa) ⟨[.ref a], []⟩) (fun r s' => r = .ok (.ret (.bool true)) ∧ OldK s₁.heap s'.heap ∧ s'.os = s₁.os ∧ AllBare s'.gens) s₁ := by
    intro H hO hS hok hA hK
    have base_of : ∀ {b : Addr} {o : Obj}, s₁.heap.get? b = some o → H b = none → (hidT s₁.heap H).get? b = some o := fun e n => hidT_get e n
    have noA : ∀ {b : Addr} {o : Obj} {es : Array DictEntry} {ep : Nat}, s₁.heap.get? b = some o → o.data = .dict es ep → H b = none := fun {b o es ep} e d => by
      cases q : H b with
      | none => rfl
      | some u =>
        have e' : b = a := hA b (by rw [q]; simp)
        subst e'
        rw [ha] at e; cases e
        have d' : Data.seq vs.toArray _ = Data.dict es ep := d
        cases d'
    have nsK : ∀ {b : Addr} {m : Str → Option Value}, s₁.heap.Ns b m → (hidT s₁.heap H).Ns b m := fun {b m} ⟨o, es, ep, e, d, r⟩ => ⟨o, es, ep, base_of e (noA e d), d, r⟩
    have hKb : K.In (hidT s₁.heap H) := fun b o e => base_of (KX b o e) (by
      cases q : H b with
      | none => rfl
      | some u =>
        have e' : b = a := hA b (by rw [q]; simp)
        subst e'
        rw [hK (by rw [q]; simp)] at e; cases e)
    have hM : Mod K mg (hidT s₁.heap H) := ⟨hKb, nsK hns, ⟨mb, nsK hb, hbb⟩, let ⟨mc, h1, h2⟩ := hlim; ⟨mc, nsK h1, h2⟩⟩
    have e0 : Env0 P w K mg (hidT s₁.heap H) callerA [] s₁ H := ⟨rfl, hM, fun b o e => of_hidT e, Nat.le_of_eq (hidT_size _ _), trivial, fun b hb => absurd (show b ∈ ([] : List Addr) from hb) (by simp), hok, .of_eq hg⟩
    refine codeAny_mono ((F _ hKb (nsK hns)).run callerA [] s₁ H ⟨[.ref a], []⟩ [.ref a] [.ref a] _ _ hr rfl e0 (hbind s₁ (.ref a)) (.cons rfl .nil) (hsp H hO hS)) fun r s' h => ?_
    cases r with
    | error e => exact (hCX H e s' h).elim
    | ok fl =>
      cases fl with
      | next => exact False.elim h
      | brk => exact False.elim h
      | cont => exact False.elim h
      | ret u =>
        obtain ⟨v, H', os, bare, un, hok', r', q⟩ := h
        have q' : v = .bl true := q
        subst q'
        obtain rfl : u = Value.bool true := r'
        refine ⟨rfl, OldK.of_keep fun b o e => ?_, os, bare⟩
        cases q : H b with
        | none => exact un.keep b o e q (by intro z; exact absurd (show b ∈ ([] : List Addr) from z) (by simp)) (by simp)
        | some u =>
          rcases hO b with z | ⟨ob, xs, z⟩
          · rw [q] at z; cases z
          · have z2 := un.frzs b ob _ z
            obtain ⟨e1, _⟩ := hok b _ z
            obtain ⟨e2, _⟩ := hok' b _ z2
            rw [e] at e1; cases e1
            exact e2
  cases hk : K.lookup a with
  | some o =>
    -- the script is one of the module's own objects
    have e := KX a o hk
    rw [ha] at e
    cases e
    refine core (fun _ => none) (fun _ => .inl rfl) (.inr ⟨_, vs.toArray, _, hk, rfl, rfl, rfl, by rw [List.size_toArray, lenV]; exact hl, by simpa using rv⟩) (fun b u z => by have z' : (none : Option HO) = some u := z; cases z') (fun b z => absurd rfl z) fun z => absurd rfl z
  | none =>
    refine core (fun b => if b = a then some (.frz { cls := .type "list", data := .seq vs.toArray } (.lst (ns.map V.int))) else none) (fun b => ?_) (.inl (.inr ⟨{ cls := .type "list", data := .seq vs.toArray }, if_pos rfl⟩)) (fun b u z => ?_) (fun b z => ?_) fun _ => hk
    · by_cases hb : b = a
      · exact .inr ⟨_, _, if_pos hb⟩
      · exact .inl (if_neg hb)
    · by_cases hb : b = a
      · have z' := (if_pos hb).symm.trans z
        cases z'
        subst hb
        exact ⟨ha, by rw [List.length_map]; exact hl, vs, _, rv, ha⟩
      · have z' := (if_neg hb).symm.trans z
        cases z'
    · by_cases hb : b = a
      · exact hb
      · exact absurd (if_neg hb) z

/-- the goal that k_head leaves (case hc), from the law's promise. F gives the function object fd (K's own) once, then the promise over every base -/
theorem walk_ofG {l : PySem.W.OpenLaw} {n k : Nat} {q : Program} {loose : List Str} {XP : (Str → Option Value) → Heap → Prop} {YP : World → Heap → Prop} {d : DefRec} {K : Params → PySem.W.Frag} {CX : World → CXT} {sp : World → Sp} {x : Str}
    (hn : l.most = some n) (hn2 : n ≤ sizeLine) (hdf : d.params.defaults = []) (hr : Room k callerA)
    (hY : ∀ (w : World) (h : Heap), YP w h → (K w.params).In h)
    (F : ∀ (w : World) (mg : Str → Option Value) (fa : Addr) (h : Heap), (K w.params).In h → h.Ns mainGlobals mg → mg d.name = some (.ref fa) →
      ∃ fd : FuncData, (∀ (s : Shared) (u : Value), BindsTo s fd ⟨[u], []⟩ [(x, u)]) ∧
        ∀ base : Heap, (K w.params).In base → base.Ns mainGlobals mg → FnG l.prog w (K w.params) mg base (CX w) k fa fd [x] (sp w))
    (hsp : ∀ (w : World) (H : Hp) (a : Addr) (ns : List Int), ns.length ≤ n → Only H → SqL (K w.params) H a (ns.map V.int) → sp w [.ref a] H (fun v _ => v = .bl true) fun _ _ _ => False)
    (hCX : ∀ (w : World) (H : Hp) (s : Shared) (e : Value) (s' : Shared), CX w [] H s (fun _ _ _ => False) e s' → False) :
    PySem.W.WalkO q loose XP YP l.row.toRowW d [] (fun f vs => PySem.call f vs) := by
  refine Att.attach_call hn hdf fun w s₀ s₁ mg mb fa o pm cd doc a vs ns G Y ho hd hcd hmg hobj hints hlen hg => ?_
  have KX := hY w _ Y
  obtain ⟨fd, hb, hF⟩ := F w mg fa _ KX G.T.g hmg
  exact law_callG KX G.T.g G.T.b G.T.builtins G.T.nolimit hg hobj hints (Nat.le_trans hlen hn2) hr hF hb (fun H hO hS => hsp w H a ns hlen hO hS) fun H e s' => hCX w H s₁ e s'

/-! ### calls by name -/
section
variable {X : Cx} {k : Nat} {f : Addr} {fd : FuncData} {ps : List Str} {sp : Sp} {E : XK} {CX : CXT}
theorem run_fnG {pins : List (Addr × Obj)} {σ : SS} {H : Hp} {s : Shared} {Q : VK} {us ws : List Value} {vs : List V} {ks : List Str} (F : FnG X.prog X.w X.K X.mg X.base CX k f fd ps sp) (hr : Room k X.A) (hgd : X.A.guards = some []) (hb : BindsTo s fd ⟨us, ks.zip ws⟩ (ps.zip (us ++ ws))) (hx : Passes CX X E)
    (I : Inv X pins σ H s) (r : Vals vs (us ++ ws)) (h : sp vs H Q E) : wpAny (model X.prog X.w) X.A (call (.ref f) us (ks.zip ws)) (EP X pins σ Q) X.xe s := by
  refine wpAny_call (codeAny_mono (F.run X.A X.stack s H ⟨us, ks.zip ws⟩ (us ++ ws) vs Q E hr hgd I.env0 hb r h) fun r s' hq => ?_)
  cases r with
  | error e => exact hx pins σ H s e s' I hq
  | ok fl =>
    cases fl with
    | ret u => exact I.after hq
    | next => exact False.elim hq
    | brk => exact False.elim hq
    | cont => exact False.elim hq
end
/-- how a def's arguments are bound, n by place, the others by name, in the parameters' order -/
def BindK (fd : FuncData) (ps : List Str) (n : Nat) (ks : List Str) : Prop := ∀ us ws : List Value, us.length = n → ws.length = ks.length → bindArgs fd ⟨us, ks.zip ws⟩ = pure (ps.zip (us ++ ws))
/-- the def that is called x: its evaluator F, the ways in which it is called -/
structure Cal (L : Lw) (x : Str) (F : FSem) (sh : List (Nat × List Str)) : Prop where
  ex : ∃ (f : Addr) (fd : FuncData) (ps : List Str), FnG L.P L.w L.K L.mg L.base (CX L.P L.w) L.k f fd ps (spF L.K L.mg F) ∧ L.mg x = some (.ref f) ∧ PySem.W.keepIn L.K (.ref f) = true ∧ ∀ p ∈ sh, BindK fd ps p.1 p.2
/-- keywords: names, expressions -/
def kwsOf : List (Str × Expr × Pos) → List Keyword
  | [] => []
  | (n, e, p) :: r => ⟨some n, e, p⟩ :: kwsOf r
section
variable {L : Lw} {N : List Str} {sc : Scope} {ca : Str → Bool} {W : XK} {Ze : Addr → Prop} {w w0 w1 w2 w' : Wd} {σ : SS} {ρ ρ' : List Sl}
variable {a b c e i z : Expr} {es : List Expr} {pos p p1 p2 p3 : Pos} {G : List FSem} {ia ib ic ie : IE} {ies iks : List IE} {x : Str} {j : Nat} {F : FSem} {sh : List (Nat × List Str)}
theorem evs_append {G : List FSem} : ∀ (xs ys : List IE) (ρ : List Sl) (φ : List O), evs G (xs ++ ys) ρ φ = (evs G xs ρ φ).bind fun vs φ1 => (evs G ys ρ φ1).bind fun us φ2 => .ok (vs ++ us) φ2
  | [], ys, ρ, φ => by
    simp only [List.nil_append, evs, R.bind_ok]
    cases evs G ys ρ φ <;> rfl
  | x :: xs, ys, ρ, φ => by
    simp only [List.cons_append, evs]
    cases ev G x ρ φ with
    | bad => rfl
    | exc c d φ => rfl
    | ok v φ1 =>
      simp only [R.bind_ok]
      rw [evs_append xs ys ρ φ1]
      cases evs G xs ρ φ1 with
      | bad => rfl
      | exc c d φ => rfl
      | ok vs φ2 =>
        simp only [R.bind_ok]
        cases evs G ys ρ φ2 <;> rfl
theorem RepXs.append {vs us : List V} {xs ys : List X1} (r : RepXs L.K L.mg Ze w vs xs) (q : RepXs L.K L.mg Ze w us ys) : RepXs L.K L.mg Ze w (vs ++ us) (xs ++ ys) := by
  induction r with
  | nil => exact q
  | cons r _ ih => exact .cons r ih
/-- keywords' values -/
def SndK (L : Lw) (N : List Str) (sc : Scope) (ca : Str → Bool) (W : XK) (kws : List (Str × Expr × Pos)) (f : Ev1) : Prop := ∃ t, (∀ X, Ctx L N sc ca W X → PK X (kwsOf kws) t) ∧ SoA L W t f
theorem snk_nil : SndK L N sc ca W [] (evs G []) := ⟨tNil, fun X C => pk_nil, fun Ze w σ ρ Q ok rs h => by simp only [evs] at h; exact post.here ok h _ .nil⟩
theorem snk_cons {n : Str} {q : Pos} {kws : List (Str × Expr × Pos)} (ha : SndE L N sc ca W e (ev G ie)) (hs : SndK L N sc ca W kws (evs G ies)) : SndK L N sc ca W ((n, e, q) :: kws) (evs G (ie :: ies)) := by
  obtain ⟨ta, pa, sa⟩ := ha
  obtain ⟨ts, ps, ss⟩ := hs
  refine ⟨tCons ta ts, fun X C => pk_cons (pa X C) (ps X C), fun Ze w σ ρ Q ok rs h => ?_⟩
  simp only [evs] at h
  refine sa Ze w σ ρ _ ok rs ((post.bind h).imp fun x w1 n1 h1 v r1 => ?_)
  refine ss Ze w1 σ ρ _ n1.ok (rs.nx ok n1.st) ((post.bind h1).imp fun xs w2 n2 h2 vs r2 => ?_)
  exact post.here n2.ok h2 _ (.cons (r1.nx n1.ok n2.st) r2)
theorem evs_length {G : List FSem} : ∀ {ies : List IE} {ρ : List Sl} {φ φ' : List O} {xs : List X1}, evs G ies ρ φ = .ok xs φ' → xs.length = ies.length
  | [], ρ, φ, φ', xs, h => by simp only [evs] at h; cases h; rfl
  | e :: es, ρ, φ, φ', xs, h => by
    simp only [evs] at h
    cases h1 : ev G e ρ φ with
    | bad => rw [h1] at h; cases h
    | exc c d ψ => rw [h1] at h; cases h
    | ok x φ1 =>
      rw [h1] at h
      simp only [R.bind_ok] at h
      cases h2 : evs G es ρ φ1 with
      | bad => rw [h2] at h; cases h
      | exc c d ψ => rw [h2] at h; cases h
      | ok ys φ2 =>
        rw [h2] at h
        cases h
        simp [evs_length h2]
theorem post_evs {G : List FSem} {ies : List IE} {ρ : List Sl} {φ : List O} {k : List X1 → Wd → Prop} (h : post L.K L.mg Ze W (evs G ies ρ φ) w k) : post L.K L.mg Ze W (evs G ies ρ φ) w (fun xs w' => xs.length = ies.length ∧ k xs w') := by
  cases q : evs G ies ρ φ with
  | bad => rw [q] at h; exact h
  | exc c d ψ => rw [q] at h; exact h
  | ok xs ψ => rw [q] at h; exact fun w' e n => ⟨evs_length q, h w' e n⟩
/-- a call's reading: the arguments by place, those by name -/
def tCallG (sp : Sp) (E : XK) (n m : Nat) (t tk : TA) : TE := fun σ H Q => t σ H fun vs H1 => vs.length = n ∧ tk σ H1 fun zs H2 => zs.length = m ∧ sp (vs ++ zs) H2 Q E
theorem so_call {ta tk : TA} (hF : G[j]? = some F) (sa : SoA L W ta (evs G ies)) (sk : SoA L W tk (evs G iks)) : SoE L W (tCallG (spF L.K L.mg F) W ies.length iks.length ta tk) (ev G (.call j (ies ++ iks))) := by
  intro Ze w σ ρ Q ok rs h
  simp only [ev, hF] at h
  rw [evs_append] at h
  have h' : post L.K L.mg Ze W ((evs G ies ρ w.φ).bind fun xs φ1 => (evs G iks ρ φ1).bind fun ys φ2 => callX F (xs ++ ys) φ2) w (fun x w' => ∀ v, RepX L.K L.mg Ze w' v x → Q v w'.H) := by
    revert h
    cases evs G ies ρ w.φ with
    | bad => exact fun h => h
    | exc c d φ => exact fun h => h
    | ok xs φ1 =>
      simp only [R.bind_ok]
      cases evs G iks ρ φ1 with
      | bad => exact fun h => h
      | exc c d φ => exact fun h => h
      | ok us φ2 =>
        intro h
        simp only [R.bind_ok, hF] at h
        exact h
  refine sa Ze w σ ρ _ ok rs ((post_evs (post.bind h')).imp fun xs w1 n1 ⟨l1, h1⟩ vs r1 => ⟨by rw [r1.length]; exact l1, ?_⟩)
  refine sk Ze w1 σ ρ _ n1.ok (rs.nx ok n1.st) ((post_evs (post.bind h1)).imp fun ys w2 n2 ⟨l2, h2⟩ us r2 => ⟨by rw [r2.length]; exact l2, ?_⟩)
  exact call_read n2.ok ((r1.nx n1.ok n2.st).append r2) h2
theorem kw_all {env : Env} : ∀ kws : List (Str × Expr × Pos), (backToKw pos (keywordEach (kwsOf kws) env)).all (·.1.isSome) = true ∧ (backToKw pos (keywordEach (kwsOf kws) env)).filterMap (·.1) = kws.map (·.1) ∧ (backToKw pos (keywordEach (kwsOf kws) env)).any (·.1.isNone) = false
  | [] => ⟨rfl, rfl, rfl⟩
  | (n, e, q) :: r => by
    obtain ⟨h1, h2, h3⟩ := kw_all (env := env) r
    have e0 : backToKw pos (keywordEach (kwsOf ((n, e, q) :: r)) env) = (some n, do let v ← eval e env; standAt pos; pure v) :: backToKw pos (keywordEach (kwsOf r) env) := rfl
    rw [e0]
    refine ⟨by rw [List.all_cons, h1]; rfl, by rw [List.filterMap_cons]; simp [h2], by rw [List.any_cons, h3]; rfl⟩
theorem kw_len {env : Env} (kws : List (Str × Expr × Pos)) : (keywordEach (kwsOf kws) env).length = kws.length := by
  induction kws with
  | nil => rfl
  | cons a r ih =>
    obtain ⟨n, e, q⟩ := a
    show (keywordEach (kwsOf r) env).length + 1 = _
    rw [ih]; rfl
theorem passesW {X : Cx} (C : Ctx L N sc ca W X) : Passes (CX X.prog X.w) X W := passes_call C.tk fun _ _ _ _ h => h
theorem calX {X : Cx} (C : Ctx L N sc ca W X) (h : Cal L x F sh) : ∃ (f : Addr) (fd : FuncData) (ps : List Str), FnG X.prog X.w X.K X.mg X.base (CX X.prog X.w) L.k f fd ps (spF L.K L.mg F) ∧ X.mg x = some (.ref f) ∧ PySem.W.keepIn X.K (.ref f) = true ∧ ∀ p ∈ sh, BindK fd ps p.1 p.2 := by
  rw [C.eP, C.ew, C.eK, C.em, C.eb]
  exact h.ex
theorem cal_fin {X : Cx} {kws : List (Str × Expr × Pos)} {pins : List (Addr × Obj)} {Q : VK} {f : Addr} {fd : FuncData} {ps : List Str} (C : Ctx L N sc ca W X) (hG : FnG X.prog X.w X.K X.mg X.base (CX X.prog X.w) L.k f fd ps (spF L.K L.mg F)) (hb : ∀ p ∈ sh, BindK fd ps p.1 p.2) (hsh : (es.length, kws.map (·.1)) ∈ sh)
    (us ws : List Value) (vs zs : List V) (s2 : Shared) (H2 : Hp) (I2 : Inv X pins σ H2 s2) (l1 : vs.length = es.length) (l2 : zs.length = kws.length) (r1 : Vals vs us) (r2 : Vals zs ws) (q : spF L.K L.mg F (vs ++ zs) H2 Q W) :
    wpAny (model X.prog X.w) X.A (call (.ref f) us ((kws.map (·.1)).zip ws)) (EP X pins σ Q) X.xe s2 :=
  run_fnG hG C.hr C.gd (.of_eq (hb _ hsh us ws (by rw [← r1.length]; exact l1) (by rw [← r2.length, l2, List.length_map]))) (passesW C) I2 (r1.append r2) q
/-- f(e, ..) -/
theorem snd_call1 (hF : G[j]? = some F) (hc : Cal L x F sh) (g : globOk sc x = true) (hs : SndA L N sc ca W (e :: es) (evs G ies)) (hn : (e :: es).all noStar = true) (hsh : ((e :: es).length, []) ∈ sh) (le : ies.length = (e :: es).length) :
    SndE L N sc ca W (.Call (.Name x p) (e :: es) [] pos) (ev G (.call j ies)) := by
  obtain ⟨ta, pa, sa⟩ := hs
  have so := so_call (W := W) (ies := ies) (iks := []) hF sa (tk := tNil) (fun Ze w σ ρ Q ok rs h => by simp only [evs] at h; exact post.here ok h _ .nil)
  rw [le, List.append_nil] at so
  refine ⟨tCallG (spF L.K L.mg F) W (e :: es).length 0 ta tNil, fun X C => ?_, so⟩
  obtain ⟨f, fd, ps, hG, hm, hkp, hb⟩ := calX C hc
  obtain ⟨hg, hdb⟩ := gl_of C g
  rw [List.all_cons, Bool.and_eq_true] at hn
  refine ⟨fun pins s σ H Q I h => ?_⟩
  refine wpAny_Call_Name_kw (ld_glob I hg hm ?_ hdb)
  refine PySem.W.callWith_K (h₀ := X.base) I.ok.mod.kin hkp (thn ((pa X C).run pos pins s σ H _ I h) fun us s1 ⟨vs, H1, I1, r, l1, l2, q⟩ => ⟨I1.kIn, ?_⟩) (starEach_cons hn.1) (backTo_any hn.2)
  exact cal_fin (kws := []) C hG hb hsh us [] vs [] s1 H1 I1 l1 rfl r .nil q
/-- f(e, .., k = v, ..) -/
theorem snd_callK {kw : Str × Expr × Pos} {kws : List (Str × Expr × Pos)} (hF : G[j]? = some F) (hc : Cal L x F sh) (g : globOk sc x = true) (hs : SndA L N sc ca W (e :: es) (evs G ies)) (hk : SndK L N sc ca W (kw :: kws) (evs G iks)) (hn : (e :: es).all noStar = true) (hsh : ((e :: es).length, (kw :: kws).map (·.1)) ∈ sh)
    (le : ies.length = (e :: es).length) (lk : iks.length = (kw :: kws).length) : SndE L N sc ca W (.Call (.Name x p) (e :: es) (kwsOf (kw :: kws)) pos) (ev G (.call j (ies ++ iks))) := by
  obtain ⟨ta, pa, sa⟩ := hs
  obtain ⟨tk, pk, sk⟩ := hk
  have so := so_call hF sa sk
  rw [le, lk] at so
  refine ⟨tCallG (spF L.K L.mg F) W (e :: es).length (kw :: kws).length ta tk, fun X C => ?_, so⟩
  obtain ⟨f, fd, ps, hG, hm, hkp, hb⟩ := calX C hc
  obtain ⟨hg, hdb⟩ := gl_of C g
  obtain ⟨k1, k2, k3⟩ := kw_all (pos := pos) (env := X.env) (kw :: kws)
  have hpl : (backTo pos (starEach (e :: es) X.env)).any (·.1) = false := backTo_any hn
  rw [List.all_cons, Bool.and_eq_true] at hn
  refine ⟨fun pins s σ H Q I h => ?_⟩
  refine wpAny_Call_Name_kw (ld_glob I hg hm ?_ hdb)
  refine PySem.W.callWith_KW (h₀ := X.base) I.ok.mod.kin hkp k1 (thn ((pa X C).run pos pins s σ H _ I h) fun us s1 ⟨vs, H1, I1, r, l1, q⟩ => ?_) (by rw [hpl, k3]; rfl) (starEach_cons hn.1)
  refine thn ((pk X C).run pos pins s1 σ H1 _ I1 q) fun ws s2 ⟨zs, H2, I2, rz, l2, q2⟩ => ⟨I2.kIn, ?_⟩
  rw [k2]
  exact cal_fin C hG hb hsh us ws vs zs s2 H2 I2 l1 l2 r rz q2
/-- f(k = v, ..) -/
theorem snd_callK0 {kw : Str × Expr × Pos} {kws : List (Str × Expr × Pos)} (hF : G[j]? = some F) (hc : Cal L x F sh) (g : globOk sc x = true) (hk : SndK L N sc ca W (kw :: kws) (evs G iks)) (hsh : (0, (kw :: kws).map (·.1)) ∈ sh) (lk : iks.length = (kw :: kws).length) :
    SndE L N sc ca W (.Call (.Name x p) [] (kwsOf (kw :: kws)) pos) (ev G (.call j iks)) := by
  obtain ⟨tk, pk, sk⟩ := hk
  have so := so_call (W := W) (ies := []) hF (ta := tNil) (fun Ze w σ ρ Q ok rs h => by simp only [evs] at h; exact post.here ok h _ .nil) sk
  rw [lk, List.nil_append] at so
  refine ⟨tCallG (spF L.K L.mg F) W 0 (kw :: kws).length tNil tk, fun X C => ?_, so⟩
  obtain ⟨f, fd, ps, hG, hm, hkp, hb⟩ := calX C hc
  obtain ⟨hg, hdb⟩ := gl_of C g
  obtain ⟨k1, k2, k3⟩ := kw_all (pos := pos) (env := X.env) (kw :: kws)
  refine ⟨fun pins s σ H Q I h => ?_⟩
  obtain ⟨_, h⟩ := h
  refine wpAny_Call_Name_kw (ld_glob I hg hm ?_ hdb)
  refine PySem.W.callWith_KW0 (h₀ := X.base) I.ok.mod.kin hkp k1 (thn ((pk X C).run pos pins s σ H _ I h) fun ws s2 ⟨zs, H2, I2, rz, l2, q2⟩ => ⟨I2.kIn, ?_⟩) (by rw [k3]; rfl)
  rw [k2]
  exact cal_fin (es := []) C hG hb hsh [] ws [] zs s2 H2 I2 rfl l2 .nil rz q2
/-- f() -/
theorem snd_call0 (hF : G[j]? = some F) (hc : Cal L x F sh) (g : globOk sc x = true) (hsh : (0, []) ∈ sh) : SndE L N sc ca W (.Call (.Name x p) [] [] pos) (ev G (.call j [])) := by
  have so := so_call (L := L) (W := W) (ies := []) (iks := []) hF (ta := tNil) (tk := tNil) (fun Ze w σ ρ Q ok rs h => by simp only [evs] at h; exact post.here ok h _ .nil) (fun Ze w σ ρ Q ok rs h => by simp only [evs] at h; exact post.here ok h _ .nil)
  refine ⟨tCallG (spF L.K L.mg F) W 0 0 tNil tNil, fun X C => ?_, so⟩
  obtain ⟨f, fd, ps, hG, hm, hkp, hb⟩ := calX C hc
  obtain ⟨hg, hdb⟩ := gl_of C g
  refine ⟨fun pins s σ H Q I h => ?_⟩
  obtain ⟨_, _, h⟩ := h
  refine wpAny_Call_Name_kw (ld_glob I hg hm ?_ hdb)
  refine PySem.W.callWith_K0 I.kIn hkp ?_
  exact cal_fin (kws := []) (es := []) C hG hb hsh [] [] [] [] s H I rfl rfl .nil .nil h
/-! ### a def by its body -/
theorem nx_trunc {m : Nat} (ok : Ok L.K L.mg Ze w) (n : Nx L.K L.mg Ze w w1) (hm : w.α.length ≤ m) : Nx L.K L.mg Ze w ⟨w1.α.take m, w1.φ.take m, w1.H⟩ ∧ ∀ a, Z Ze ⟨w1.α.take m, w1.φ.take m, w1.H⟩ a → Z Ze w1 a := by
  have at1 : ∀ {β : Type} {l : List β} {i : Nat} {x : β}, (l.take m)[i]? = some x → l[i]? = some x := fun {β l i x} e => by
    rw [List.getElem?_take] at e
    split at e
    · exact e
    · cases e
  have lv : ∀ a, Live ⟨w1.α.take m, w1.φ.take m, w1.H⟩ a → Live w1 a := fun a ⟨i, o, e1, e2, e3⟩ => ⟨i, o, at1 e1, at1 e2, e3⟩
  have zl : ∀ a, Z Ze ⟨w1.α.take m, w1.φ.take m, w1.H⟩ a → Z Ze w1 a := fun a z => z.elim .inl fun l => .inr (lv a l)
  have kz : Keeps w1.H w1.H (Z Ze w1) (Z Ze ⟨w1.α.take m, w1.φ.take m, w1.H⟩) := Keeps.zoneLe zl
  obtain ⟨β, eβ, fβ⟩ := n.st.pre
  refine ⟨⟨⟨by simp [n.ok.len], n.ok.nd.sublist (List.take_sublist _ _), n.ok.dom, fun i a e => n.ok.adom i a (at1 e), fun i a e => n.ok.out i a (at1 e), fun i a o e1 e2 => (n.ok.store i a o (at1 e1) (at1 e2)).keepsL kz fun _ _ q => q⟩,
    ⟨⟨β.take (m - w.α.length), ?_, fun b hb => fβ b (List.mem_of_mem_take hb)⟩, n.st.keep, fun b l => n.st.live b (lv b l), fun j ds e => ?_, n.st.there⟩⟩, zl⟩
  · show w1.α.take m = _
    rw [eβ, List.take_append, List.take_of_length_le hm]
  · show (w1.φ.take m)[j]? = _
    have q := n.st.lck j ds e
    rw [List.getElem?_take, if_pos]
    · exact q
    · have h1 := (List.getElem?_eq_some_iff.mp e).1
      have h2 := ok.len
      omega
/-- behind a def its own handles are gone -/
theorem finish_read {x : X1} {v : V} {Q : VK} (ok : Ok L.K L.mg Ze w) (n : Nx L.K L.mg Ze w w1) (r : RepX L.K L.mg Ze w1 v x) (h : post L.K L.mg Ze W (finish w.φ.length x w1.φ) w (fun x w' => ∀ v, RepX L.K L.mg Ze w' v x → Q v w'.H)) : Q v w1.H := by
  obtain ⟨n0, zl⟩ := nx_trunc ok n (Nat.le_refl _)
  rw [ok.len] at n0 zl
  cases x with
  | v d => exact h ⟨w1.α.take w.φ.length, w1.φ.take w.φ.length, w1.H⟩ rfl n0 v (Rep.keeps (Keeps.zoneLe zl) r)
  | h j =>
    obtain ⟨a, ea, rfl⟩ := r
    unfold finish at h
    simp only at h
    split at h
    · rename_i hj
      refine h ⟨w1.α.take w.φ.length, w1.φ.take w.φ.length, w1.H⟩ rfl n0 _ ⟨a, ?_, rfl⟩
      show (w1.α.take w.φ.length)[j]? = _
      rw [List.getElem?_take, if_pos hj]; exact ea
    · rename_i hj
      obtain ⟨β, eβ, fβ⟩ := n.st.pre
      have fresh : w.H a = none := by
        rw [eβ, List.getElem?_append_right (by rw [ok.len]; omega)] at ea
        exact fβ a (List.mem_of_getElem? ea)
      cases q : w1.φ[j]? with
      | none => rw [q] at h; exact h.elim
      | some o =>
        rw [q] at h
        have st := n.ok.store j a o ea q
        have new : ∀ (o : O), w1.φ[j]? = some o → (finish w.φ.length (.h j) w1.φ = .ok (.h w.φ.length) (w1.φ.take w.φ.length ++ [o])) → post L.K L.mg Ze W (R.ok (X1.h w.φ.length) (w1.φ.take w.φ.length ++ [o])) w (fun x w' => ∀ v, RepX L.K L.mg Ze w' v x → Q v w'.H) → Q (.ref a) w1.H := by
          intro o q _ h
          have la : (w1.α.take w.φ.length).length = w.φ.length := by
            have : w.φ.length ≤ w1.α.length := by rw [eβ, List.length_append, ok.len]; omega
            simp [this]
          have lp : (w1.φ.take w.φ.length).length = w.φ.length := by rw [← la]; simp [n.ok.len]
          have at1 : ∀ {γ : Type} {l : List γ} {i : Nat} {x : γ}, (l.take w.φ.length)[i]? = some x → l[i]? = some x := fun {γ l i x} e => by
            rw [List.getElem?_take] at e
            split at e
            · exact e
            · cases e
          have look : ∀ (i : Nat) b u, (w1.α.take w.φ.length ++ [a])[i]? = some b → (w1.φ.take w.φ.length ++ [o])[i]? = some u → ∃ k, w1.α[k]? = some b ∧ w1.φ[k]? = some u := fun i b u e1 e2 => by
            by_cases hi : i < w.φ.length
            · rw [List.getElem?_append_left (by rw [la]; exact hi)] at e1
              rw [List.getElem?_append_left (by rw [lp]; exact hi)] at e2
              exact ⟨i, at1 e1, at1 e2⟩
            · rw [List.getElem?_append_right (by rw [la]; omega), la] at e1
              rw [List.getElem?_append_right (by rw [lp]; omega), lp] at e2
              have h0 : i - w.φ.length = 0 := by
                have := (List.getElem?_eq_some_iff.mp e1).1
                simp at this
                omega
              rw [h0] at e1 e2
              cases e1
              cases e2
              exact ⟨j, ea, q⟩
          have adr : ∀ (i : Nat) b, (w1.α.take w.φ.length ++ [a])[i]? = some b → ∃ k, w1.α[k]? = some b := fun i b e1 => by
            by_cases hi : i < w.φ.length
            · rw [List.getElem?_append_left (by rw [la]; exact hi)] at e1
              exact ⟨i, at1 e1⟩
            · rw [List.getElem?_append_right (by rw [la]; omega), la] at e1
              have h0 : i - w.φ.length = 0 := by
                have := (List.getElem?_eq_some_iff.mp e1).1
                simp at this
                omega
              rw [h0] at e1
              cases e1
              exact ⟨j, ea⟩
          have lv : ∀ b, Live ⟨w1.α.take w.φ.length ++ [a], w1.φ.take w.φ.length ++ [o], w1.H⟩ b → Live w1 b := fun b ⟨i, u, e1, e2, e3⟩ => by
            obtain ⟨k, g1, g2⟩ := look i b u e1 e2
            exact ⟨k, u, g1, g2, e3⟩
          have zl2 : ∀ b, Z Ze ⟨w1.α.take w.φ.length ++ [a], w1.φ.take w.φ.length ++ [o], w1.H⟩ b → Z Ze w1 b := fun b z => z.elim .inl fun l => .inr (lv b l)
          have eα : w1.α.take w.φ.length = w.α := by
            rw [eβ, ← ok.len, List.take_append_of_le_length (Nat.le_refl _), List.take_length]
          have n2 : Nx L.K L.mg Ze w ⟨w1.α.take w.φ.length ++ [a], w1.φ.take w.φ.length ++ [o], w1.H⟩ := by
            refine ⟨⟨by show (w1.α.take w.φ.length ++ [a]).length = (w1.φ.take w.φ.length ++ [o]).length; rw [List.length_append, List.length_append, la, lp]; rfl, ?_, n.ok.dom, fun i b e => ?_, fun i b e => ?_, fun i b u e1 e2 => ?_⟩,
              ⟨⟨[a], by show w1.α.take w.φ.length ++ [a] = _; rw [eα], fun b hb => ?_⟩, n.st.keep, fun b l => n.st.live b (lv b l), fun k ds e => ?_, n.st.there⟩⟩
            · show (w1.α.take w.φ.length ++ [a]).Nodup
              rw [eα, List.nodup_append]
              refine ⟨ok.nd, by simp, fun x hx y hy e => ?_⟩
              rw [List.mem_singleton.mp hy] at e
              subst e
              obtain ⟨i, hi⟩ := List.mem_iff_getElem?.mp hx
              obtain ⟨u, hu⟩ := ok.adom i x hi
              rw [fresh] at hu; cases hu
            · obtain ⟨k, g⟩ := adr i b e
              exact n.ok.adom k b g
            · obtain ⟨k, g⟩ := adr i b e
              exact n.ok.out k b g
            · obtain ⟨k, g1, g2⟩ := look i b u e1 e2
              exact (n.ok.store k b u g1 g2).keepsL (Keeps.zoneLe zl2) fun _ _ q => q
            · rw [List.mem_singleton.mp hb]; exact fresh
            · show (w1.φ.take w.φ.length ++ [o])[k]? = _
              have hk := (List.getElem?_eq_some_iff.mp e).1
              rw [List.getElem?_append_left (by rw [lp]; exact hk), List.getElem?_take, if_pos hk]
              exact n.st.lck k ds e
          refine h _ rfl n2 _ ⟨a, ?_, rfl⟩
          show (w1.α.take w.φ.length ++ [a])[w.φ.length]? = _
          rw [List.getElem?_append_right (by rw [la]; exact Nat.le_refl _), la, Nat.sub_self]; rfl
        have fe : finish w.φ.length (.h j) w1.φ = (if j < w.φ.length then .ok (.h j) (w1.φ.take w.φ.length) else match w1.φ[j]? with
          | some (.frz d) => .ok (.v d) (w1.φ.take w.φ.length)
          | some (.lck _) => .bad
          | some o => .ok (.h w.φ.length) (w1.φ.take w.φ.length ++ [o])
          | none => .bad) := rfl
        cases o with
        | frz d => exact h ⟨w1.α.take w.φ.length, w1.φ.take w.φ.length, w1.H⟩ rfl n0 _ (Rep.keeps (Keeps.zoneLe zl) st)
        | lck ds => exact h.elim
        | lst ds => exact new _ q (by rw [fe, if_neg hj, q]) h
        | dct ks ds => exact new _ q (by rw [fe, if_neg hj, q]) h
        | ins c ns ds => exact new _ q (by rw [fe, if_neg hj, q]) h
theorem start_rep {vs : List V} {xs : List X1} {n : Nat} (r : RepXs L.K L.mg Ze w vs xs) (hn : vs.length ≤ N.length) : RepS L.K L.mg Ze w (L2.start N vs) (xs.map X1.sl ++ List.replicate (N.length - xs.length) .u) := by
  have hl := r.length
  refine ⟨by unfold L2.start; simp [hl], fun i s e => ?_⟩
  unfold L2.start
  by_cases hi : i < xs.length
  · rw [List.getElem?_append_left (by simpa using hi)] at e
    rw [List.getElem?_append_left (by simpa [hl] using hi)]
    have go : ∀ {vs : List V} {xs : List X1} {i : Nat}, RepXs L.K L.mg Ze w vs xs → (xs.map X1.sl)[i]? = some s → RepS1 L.K L.mg Ze w (vs.map some)[i]? s := by
      intro vs xs i r e
      induction r generalizing i with
      | nil => simp at e
      | cons r t ih =>
        cases i with
        | zero =>
          simp only [List.map_cons, List.getElem?_cons_zero, Option.some.injEq] at e ⊢
          subst e
          rename_i v x _ _
          cases x with
          | v d => exact ⟨v, rfl, r⟩
          | h j => obtain ⟨a, e, q⟩ := r; exact ⟨a, e, by rw [q]⟩
        | succ i => simp only [List.map_cons, List.getElem?_cons_succ] at e ⊢; exact ih e
    exact go r e
  · rw [List.getElem?_append_right (by simpa using hi)] at e
    have := List.getElem?_replicate (n := N.length - xs.length) (a := Sl.u) (i := i - (xs.map X1.sl).length)
    rw [this] at e
    split at e
    · cases e; trivial
    · cases e
theorem post_base {β γ : Type} {r : R β} {f : β → List O → R γ} {k : γ → Wd → Prop} (h : post L.K L.mg Ze W (r.bind f) w k) : post L.K L.mg Ze W r w (fun b w1 => post L.K L.mg Ze W (f b w1.φ) w k) := by
  cases r with
  | bad => exact h
  | exc c d φ => exact h
  | ok b φ => intro w1 e _; rw [e]; exact h
/-- THE RULE: a def by its evaluator -/
theorem fnG_ev {f : Addr} {nm qual : Str} {st : Stmt} {fd : FuncData} {ps : List Str} {il : List IS} (Fn : L2.Fun L.K nm qual st f fd) (S : FnScope N ps (defScope st)) (hs : ∀ W, SndSs L N (defScope st) (fun _ => true) W (defBody st) (exs G il)) :
    FnG L.P L.w L.K L.mg L.base (CX L.P L.w) (L.k + 1) f fd ps (spF L.K L.mg (evFn G ps.length N.length il)) := by
  obtain ⟨oc, od, kV, doc, pm, an, cdv, ct, osl, rfl, lk, hcd⟩ := Fn.ex
  have hlen : ∀ vs H Q E, spF L.K L.mg (evFn G ps.length N.length il) vs H Q E → vs.length = ps.length := by
    rintro vs H Q E ⟨Zc, wc, xs, rfl, ok, rx, h⟩
    unfold evFn at h
    split at h
    · rename_i hc
      rw [rx.length]; exact hc.1
    · exact h.elim
  refine fnG_of lk hcd S hlen fun A outer s H vs Q E hr hgd hsp => ?_
  obtain ⟨t, pt, so⟩ := hs E
  obtain ⟨Zc, wc, xs, rfl, ok, rx, h⟩ := hsp
  refine ⟨t, pt _ ⟨rfl, rfl, rfl, rfl, rfl, rfl, rfl, S.nd, hr, hgd, rfl, fun _ _ => rfl, takes_of rfl rfl rfl rfl, passes_of rfl⟩, ?_⟩
  unfold evFn at h
  split at h
  · rename_i hc
    have hvl : vs.length = ps.length := by rw [rx.length]; exact hc.1
    have rs := start_rep (N := N) (n := 0) rx (by rw [hvl]; exact hc.2)
    have h0 := post_base h
    rw [show N.length - ps.length = N.length - xs.length by rw [hc.1]] at h0
    refine so Zc wc _ _ _ ok rs (h0.imp fun o w1 n1 h1 => ?_)
    cases o with
    | nx ρ' => exact fun σ' _ => finish_read ok n1 (v := V.non) (x := .v .non) .non h1
    | rt x => exact fun v r => finish_read ok n1 r h1
  · exact h.elim
end
end Ev
/-! Part Q: putting defs together. -/
namespace Ev
open PySem PySem.Spec PyProof.Rows L2
section
variable {P : Program} {w : World} {K : PySem.W.Frag} {mg : Str → Option Value} {base : Heap}
theorem FnG.mono {CX : CXT} {j k : Nat} {f : Addr} {fd : FuncData} {ps : List Str} {sp : Sp} (F : FnG P w K mg base CX j f fd ps sp) (h : j ≤ k) : FnG P w K mg base CX k f fd ps sp :=
  ⟨F.len, fun A outer s H args us vs Q E hr => F.run A outer s H args us vs Q E (hr.mono h)⟩
theorem FnG.imp {CX : CXT} {k : Nat} {f : Addr} {fd : FuncData} {ps : List Str} {sp sp' : Sp} (F : FnG P w K mg base CX k f fd ps sp) (h : ∀ vs H Q E, sp' vs H Q E → sp vs H Q E) : FnG P w K mg base CX k f fd ps sp' :=
  ⟨fun vs H Q E q => F.len vs H Q E (h _ _ _ _ q), fun A outer s H args us vs Q E hr hg he hb hv hs => F.run A outer s H args us vs Q E hr hg he hb hv (h _ _ _ _ hs)⟩
/-- a def under its name, at a depth -/
structure Got (P : Program) (w : World) (K : PySem.W.Frag) (mg : Str → Option Value) (base : Heap) (x : Str) (F : FSem) (lv : Nat) (sh : List (Nat × List Str)) : Prop where
  ex : ∃ (f : Addr) (fd : FuncData) (ps : List Str), FnG P w K mg base (CX P w) lv f fd ps (spF K mg F) ∧ mg x = some (.ref f) ∧ PySem.W.keepIn K (.ref f) = true ∧ ∀ p ∈ sh, BindK fd ps p.1 p.2
theorem Got.cal {x : Str} {F : FSem} {lv k : Nat} {sh : List (Nat × List Str)} (g : Got P w K mg base x F lv sh) (h : lv ≤ k) : Cal ⟨P, w, K, mg, base, k⟩ x F sh := by
  obtain ⟨f, fd, ps, h1, h2⟩ := g.ex
  exact ⟨f, fd, ps, h1.mono h, h2⟩
theorem fnG_bad {CX : CXT} {k : Nat} {f : Addr} {fd : FuncData} {ps : List Str} : FnG P w K mg base CX k f fd ps (spF K mg fun _ _ => .bad) :=
  ⟨fun vs H Q E ⟨_, _, _, _, _, _, h⟩ => h.elim, fun _ _ _ _ _ _ _ _ _ _ _ _ _ _ ⟨_, _, _, _, _, _, h⟩ => h.elim⟩
/-- a def, of what its body has shown -/
theorem got_of {x qual : Str} {st : Stmt} {f : Addr} {fd : FuncData} {N ps : List Str} {G : List FSem} {il : List IS} {k : Nat} {sh : List (Nat × List Str)} (Fn : L2.Fun K x qual st f fd) (hm : mg x = some (.ref f)) (S : C8.scC N ps (defScope st) = true)
    (hs : ∀ W, SndSs ⟨P, w, K, mg, base, k⟩ N (defScope st) (fun _ => true) W (defBody st) (exs G il)) (hb : ∀ p ∈ sh, BindK fd ps p.1 p.2) : Got P w K mg base x (evFn G ps.length N.length il) (k + 1) sh :=
  ⟨f, fd, ps, fnG_ev (L := ⟨P, w, K, mg, base, k⟩) Fn (C8.fnScope_by S) hs, hm, Fn.kp, hb⟩
/-- the law's own promise: at every script of so many numbers True -/
def spLaw (K : PySem.W.Frag) (n : Nat) : Sp := fun vs H Q _ => ∃ (a : Addr) (ns : List Int), vs = [.ref a] ∧ RdL K H a (ns.map V.int) ∧ ns.length ≤ n ∧ ∀ H', Q (.bl true) H'
theorem law_imp {F : FSem} {n : Nat} (h : ∀ ns : List Int, ns.length ≤ n → ∃ φ, F [.v (.rls (ns.map D.int))] [] = .ok (.v (.bl true)) φ) : ∀ vs H Q E, spLaw K n vs H Q E → spF K mg F vs H Q E := by
  rintro vs H Q E ⟨a, ns, rfl, hr, hl, q⟩
  obtain ⟨φ, hF⟩ := h ns hl
  refine ⟨fun _ => False, ⟨[], [], H⟩, [.v (.rls (ns.map D.int))], rfl, ⟨rfl, List.nodup_nil, fun _ z => z.elim, fun j a e => by simp at e, fun j a e => by simp at e, fun j a o e => by simp at e⟩, .cons (.rls hr (Reps.ofInts ns)) .nil, ?_⟩
  rw [hF]
  intro w' e n v r
  cases r
  exact q _
theorem rdl_of {H : Hp} {a : Addr} {xs : List V} (ho : L2.Only H) (h : SqL K H a xs) : RdL K H a xs := by
  rcases h with (h | ⟨o, h⟩) | h
  · rcases ho a with z | ⟨o, ys, z⟩
    · rw [h] at z; cases z
    · rw [h] at z; cases z
  · exact .inl ⟨o, h⟩
  · exact .inr h
theorem glo_int {P : Program} {w : World} {K : PySem.W.Frag} {mg : Str → Option Value} {base : Heap} {k : Nat} {x : Str} {i : Int} {t : Tok} (h : mg x = some (.int i t)) : GloV ⟨P, w, K, mg, base, k⟩ x (.int i) := ⟨.int i, .int i t, ⟨t, rfl⟩, fun _ _ => .int i, .inl h⟩
theorem glo_str {P : Program} {w : World} {K : PySem.W.Frag} {mg : Str → Option Value} {base : Heap} {k : Nat} {x s : Str} {t : Tok} (h : mg x = some (.str s t)) : GloV ⟨P, w, K, mg, base, k⟩ x (.str s) := ⟨.str s, .str s t, ⟨t, rfl⟩, fun _ _ => .str s, .inl h⟩
theorem glo_ty {P : Program} {w : World} {K : PySem.W.Frag} {mg : Str → Option Value} {base : Heap} {k : Nat} {x : Str} (t : T7) (h : mg x = none) (hb : bootBuiltins x = some (.type t.name)) (hn : x ≠ "__name__") : GloV ⟨P, w, K, mg, base, k⟩ x (.ty t) :=
  ⟨.ty t.name, .type t.name, rfl, fun _ _ => .ty t, .inr ⟨h, hb, hn⟩⟩
theorem glo_ref {P : Program} {w : World} {K : PySem.W.Frag} {mg : Str → Option Value} {base : Heap} {k : Nat} {x : Str} {a : Addr} (h : mg x = some (.ref a)) : GloV ⟨P, w, K, mg, base, k⟩ x (.glo x) := ⟨.ref a, .ref a, rfl, fun _ _ => .glo h, .inl h⟩
theorem cx_end {P : Program} {w : World} {H : Hp} {s s' : Shared} {e : Value} (h : L2.CX P w [] H s (fun _ _ _ => False) e s') : False := by
  obtain ⟨_, _, _, _, _, _, _, _, _, _, _, _, hE⟩ := h
  exact hE
end
end Ev
/-! Part R: reckoning with the evaluator. -/
namespace Ev
open PySem PySem.Spec PyProof.Rows L2
theorem hsOf_v (φ : List O) : ∀ ds : List D, hsOf ((ds.map X1.v).map (resX φ)) = []
  | [] => rfl
  | _ :: ds => hsOf_v φ ds
theorem renum_v (φ : List O) (n : Nat) : ∀ ds : List D, renum ((ds.map X1.v).map (resX φ)) n = ds.map X1.v
  | [] => rfl
  | d :: ds => by
    show X1.v d :: renum ((ds.map X1.v).map (resX φ)) n = _
    rw [renum_v φ n ds]; rfl
/-- a call of trees alone -/
theorem callX_tree {F : FSem} {r : D} {φ ψ : List O} (ds : List D) (h : F (ds.map .v) [] = .ok (.v r) ψ) : callX F (ds.map .v) φ = .ok (.v r) φ := by
  unfold callX
  simp only [hsOf_v, renum_v, List.nodup_nil, if_true, pick, h]
  cases ψ <;> rfl
/-- .. with one handle in front -/
theorem callX_h1 {F : FSem} {r : D} {φ : List O} {j : Nat} {o o' : O} (ds : List D) (hj : φ[j]? = some o) (hl : o.live = true) (h : F (.h 0 :: ds.map .v) [o] = .ok (.v r) [o']) : callX F (.h j :: ds.map .v) φ = .ok (.v r) (φ.set j o') := by
  have e : resX φ (.h j) = .h j := by
    unfold resX
    simp only [hj]
    cases o <;> first | rfl | cases hl
  unfold callX
  simp only [List.map_cons, e, hsOf, renum, hsOf_v, renum_v, pick, hj]
  simp only [List.nodup_cons, List.not_mem_nil, not_false_eq_true, List.nodup_nil, and_self, if_true, Nat.zero_add, h]
  rfl
theorem callX_a1 {F : FSem} {a r : D} {φ ψ : List O} (h : F [.v a] [] = .ok (.v r) ψ) : callX F [.v a] φ = .ok (.v r) φ := callX_tree [a] h
theorem callX_a2 {F : FSem} {a b r : D} {φ ψ : List O} (h : F [.v a, .v b] [] = .ok (.v r) ψ) : callX F [.v a, .v b] φ = .ok (.v r) φ := callX_tree [a, b] h
theorem callX_a3 {F : FSem} {a b c r : D} {φ ψ : List O} (h : F [.v a, .v b, .v c] [] = .ok (.v r) ψ) : callX F [.v a, .v b, .v c] φ = .ok (.v r) φ := callX_tree [a, b, c] h
theorem callX_p0 {F : FSem} {r : D} {φ : List O} {j : Nat} {o o' : O} (hj : φ[j]? = some o) (hl : o.live = true) (h : F [.h 0] [o] = .ok (.v r) [o']) : callX F [.h j] φ = .ok (.v r) (φ.set j o') := callX_h1 [] hj hl h
theorem callX_p1 {F : FSem} {a r : D} {φ : List O} {j : Nat} {o o' : O} (hj : φ[j]? = some o) (hl : o.live = true) (h : F [.h 0, .v a] [o] = .ok (.v r) [o']) : callX F [.h j, .v a] φ = .ok (.v r) (φ.set j o') := callX_h1 [a] hj hl h
/-! ### places -/
theorem ix_tup {xs : List D} {k : Int} : ixE (.tup xs) (.int k) = L2.atI xs k := rfl
theorem ix_lst {xs : List D} {k : Int} : ixE (.lst xs) (.int k) = L2.atI xs k := rfl
theorem ix_rls {xs : List D} {k : Int} : ixE (.rls xs) (.int k) = L2.atI xs k := rfl
theorem atI_of {α : Type} {xs : List α} {k : Int} (h0 : 0 ≤ k) : L2.atI xs k = xs[k.toNat]? := by
  unfold L2.atI L2.ixN
  rw [if_pos h0]
  by_cases h : k < xs.length
  · rw [if_pos h]; rfl
  · rw [if_neg h, List.getElem?_eq_none (by omega)]; rfl
theorem atI_0 {α : Type} {x : α} {xs : List α} : L2.atI (x :: xs) 0 = some x := by rw [atI_of (by decide)]; rfl
theorem atI_1 {α : Type} {x y : α} {xs : List α} : L2.atI (x :: y :: xs) 1 = some y := by rw [atI_of (by decide)]; rfl
theorem atI_2 {α : Type} {x y z : α} {xs : List α} : L2.atI (x :: y :: z :: xs) 2 = some z := by rw [atI_of (by decide)]; rfl
theorem atI_3 {α : Type} {x y z u : α} {xs : List α} : L2.atI (x :: y :: z :: u :: xs) 3 = some u := by rw [atI_of (by decide)]; rfl
theorem atI_n {α : Type} {xs : List α} {n : Nat} : L2.atI xs (n : Int) = xs[n]? := by rw [atI_of (by omega)]; rfl
theorem atI_last {α : Type} {xs : List α} : L2.atI xs (-1) = xs.getLast? := by
  unfold L2.atI L2.ixN
  rw [if_neg (by decide), List.getLast?_eq_getElem?]
  cases xs with
  | nil => rfl
  | cons x xs =>
    rw [if_pos (by simp; omega)]
    show (x :: xs)[_]? = _
    congr 1
    simp
    omega
theorem getLast_snoc {α : Type} {xs : List α} {x : α} : (xs ++ [x]).getLast? = some x := by simp
/-! ### statement by statement -/
theorem exs_nx {G : List FSem} {s : IS} {r : List IS} {ρ ρ1 : List Sl} {φ φ1 : List O} (h : ex1 G s ρ φ = .ok (.nx ρ1) φ1) : exs G (s :: r) ρ φ = exs G r ρ1 φ1 := by
  show (ex1 G s ρ φ).bind _ = _
  rw [h]; rfl
theorem exs_rt {G : List FSem} {s : IS} {r : List IS} {ρ : List Sl} {φ φ1 : List O} {x : X1} (h : ex1 G s ρ φ = .ok (.rt x) φ1) : exs G (s :: r) ρ φ = .ok (.rt x) φ1 := by
  show (ex1 G s ρ φ).bind _ = _
  rw [h]; rfl
/-- one turn of a for -/
def turnF (G : List FSem) (tg : Tg) (body : List IS) (d : D) (ρ : List Sl) (φ : List O) : R Out := match bindT tg d ρ with
  | none => .bad
  | some ρ2 => exs G body ρ2 φ
theorem ex1_for {G : List FSem} {tg : Tg} {it : II} {body : List IS} {ρ : List Sl} {φ φ1 φ2 : List O} {wk : Wk} {o : Out} (hI : evI G it ρ φ = .ok wk φ1) (hL : forL (turnF G tg body) wk.ds ρ φ1 = .ok o φ2) : ex1 G (.for tg it body) ρ φ = .ok o (unlock wk φ2) := by
  show (evI G it ρ φ).bind _ = _
  rw [hI]
  show (forL (turnF G tg body) wk.ds ρ φ1).bind _ = _
  rw [hL]; rfl
theorem forL_nx {f : D → List Sl → List O → R Out} {d : D} {ds : List D} {ρ ρ1 : List Sl} {φ φ1 : List O} (h : f d ρ φ = .ok (.nx ρ1) φ1) : forL f (d :: ds) ρ φ = forL f ds ρ1 φ1 := by
  simp only [forL, h]; rfl
theorem forL_rt {f : D → List Sl → List O → R Out} {d : D} {ds : List D} {ρ : List Sl} {φ φ1 : List O} {x : X1} (h : f d ρ φ = .ok (.rt x) φ1) : forL f (d :: ds) ρ φ = .ok (.rt x) φ1 := by
  simp only [forL, h]; rfl
/-- a loop by an invariant: none returns -/
theorem forL_inv {f : D → List Sl → List O → R Out} (P : Nat → List Sl → List O → Prop) : ∀ (ds : List D) (i : Nat) (ρ : List Sl) (φ : List O), P i ρ φ → (∀ (j : Nat) d ρ φ, ds[j]? = some d → P (i + j) ρ φ → ∃ ρ1 φ1, f d ρ φ = .ok (.nx ρ1) φ1 ∧ P (i + j + 1) ρ1 φ1) → ∃ ρ' φ', forL f ds ρ φ = .ok (.nx ρ') φ' ∧ P (i + ds.length) ρ' φ'
  | [], i, ρ, φ, h, _ => ⟨ρ, φ, rfl, h⟩
  | d :: ds, i, ρ, φ, h, st => by
    obtain ⟨ρ1, φ1, e1, h1⟩ := st 0 d ρ φ rfl h
    obtain ⟨ρ', φ', e2, h2⟩ := forL_inv P ds (i + 1) ρ1 φ1 h1 fun j d' ρ φ e p => by
      obtain ⟨ρ2, φ2, e3, h3⟩ := st (j + 1) d' ρ φ (by simpa using e) (by rw [show i + (j + 1) = i + 1 + j by omega]; exact p)
      exact ⟨ρ2, φ2, e3, by rw [show i + 1 + j + 1 = i + (j + 1) + 1 by omega]; exact h3⟩
    exact ⟨ρ', φ', by rw [forL_nx e1, e2], by rw [List.length_cons, show i + (ds.length + 1) = i + 1 + ds.length by omega]; exact h2⟩
/-- a comprehension whose turns leave the handles -/
theorem compL_map {f : D → List O → R (Option D)} {φ : List O} {g : D → Option D} : ∀ ds : List D, (∀ d ∈ ds, f d φ = .ok (g d) φ) → compL f ds φ = .ok (ds.filterMap g) φ
  | [], _ => rfl
  | d :: ds, h => by
    simp only [compL, h d List.mem_cons_self, R.bind_ok, compL_map ds fun d' hd => h d' (List.mem_cons_of_mem _ hd), List.filterMap_cons]
    cases g d <;> rfl
theorem evF_comp {G : List FSem} {own : List Nat} {tg : Tg} {it : II} {c : Option IE} {elt : IE} {ρ : List Sl} {φ : List O} {wk : Wk} {g : D → Option D} (hI : evI G it ρ φ = .ok wk φ) (hu : wk.lk = []) (hl : wk.ds.length ≤ sizeLine)
    (h : ∀ d ∈ wk.ds, one1 own tg (fun ρ1 φ2 => evC G c ρ1 φ2) (fun ρ1 φ2 => ev G elt ρ1 φ2) ρ d φ = .ok (g d) φ) : evF G (.comp own tg it c elt) ρ φ = .ok (.lst (wk.ds.filterMap g)) φ := by
  show (evI G it ρ φ).bind _ = _
  rw [hI]
  simp only [R.bind_ok, compX, if_pos hl, compL_map wk.ds h, R.nox_ok, unlock, hu, unlockL]
/-! ### simp goes forward only -/
theorem bind_cg {β γ : Type} {r r' : R β} {f : β → List O → R γ} (h : r = r') : r.bind f = r'.bind f := by rw [h]
theorem ite_cg {α : Type} {b c : Prop} {x y : α} [Decidable b] [Decidable c] (h : b = c) : (if b then x else y) = if c then x else y := by subst h; congr
section
variable {G : List FSem} {ρ : List Sl} {φ : List O} {a b e c : IE} {es : List IE} {lo hi : Option IE}
theorem evF_lst : evF G (.lst es) ρ φ = (evs G es ρ φ).bind fun xs φ1 => (frzXs xs φ1).bind fun ds φ2 => if ds.length ≤ sizeLine then .ok (.lst ds) φ2 else .bad := by simp only [evF]
theorem evF_cat : evF G (.cat a b) ρ φ = (ev G a ρ φ).bind fun x φ1 => (ev G b ρ φ1).bind fun y φ2 => R.ofOpt φ2 ((peek φ2 x).bind fun d => (peek φ2 y).bind fun e => catF d e) := by simp only [evF]
theorem evF_rep : evF G (.rep a b) ρ φ = (ev G a ρ φ).bind fun x φ1 => (ev G b ρ φ1).bind fun y φ2 => R.ofOpt φ2 ((peek φ2 x).bind fun d => (peek φ2 y).bind fun e => repF d e) := by simp only [evF]
theorem evF_sl : evF G (.sl a lo hi) ρ φ = (ev G a ρ φ).bind fun x φ1 => (evP G lo ρ φ1).bind fun l φ2 => (evP G hi ρ φ2).bind fun h φ3 => R.ofOpt φ3 ((peek φ3 x).bind fun d => slF d l h) := by simp only [evF]
theorem evF_bil : evF G (.bi .list e) ρ φ = (ev G e ρ φ).bind fun x φ1 => R.ofOpt φ1 ((peek φ1 x).bind fun d => listF [d]) := by simp only [evF]
theorem evF_bis : evF G (.bi .sorted e) ρ φ = (ev G e ρ φ).bind fun x φ1 => R.ofOpt φ1 ((peek φ1 x).bind fun d => sortedF [d]) := by simp only [evF]
theorem evF_bid : evF G (.bi .dict e) ρ φ = (ev G e ρ φ).bind fun x φ1 => R.ofOpt φ1 ((peek φ1 x).bind fun d => dictF [d]) := by simp only [evF]
theorem evF_rng : evF G (.rng a b) ρ φ = (ev G a ρ φ).bind fun x φ1 => (ev G b ρ φ1).bind fun y φ2 => match x, y with
    | .v (.int i), .v (.int j) => if inRng i && inRng j && decide ((j - i).toNat ≤ 2 ^ 24) then .ok (.lst (rngL i j)) φ2 else .bad
    | _, _ => .bad := by simp only [evF] <;> rfl
theorem evF_dnew : evF G .dnew ρ φ = .ok (.dct [] []) φ := by simp only [evF]
theorem evF_ssi : evF G (.ssi e) ρ φ = (ev G e ρ φ).bind fun x φ1 => R.ofOpt φ1 ((peek φ1 x).bind fun d => ssiF d) := by simp only [evF]
theorem ex1_ex : ex1 G (.ex e) ρ φ = (ev G e ρ φ).bind fun _ φ1 => .ok (.nx ρ) φ1 := by simp only [ex1]
theorem ex1_nm {i : Nat} : ex1 G (.asg (.nm i) e) ρ φ = (ev G e ρ φ).bind fun x φ1 => if i < ρ.length then .ok (.nx (ρ.set i x.sl)) φ1 else .bad := by simp only [ex1]
theorem ex1_tp {ts : List Tg} : ex1 G (.asg (.tp ts) e) ρ φ = (ev G e ρ φ).bind fun x φ1 => (frzX x φ1).bind fun d φ2 => R.ofOpt φ2 ((bindT (.tp ts) d ρ).map .nx) := by simp only [ex1]
theorem ex1_par {is : List Nat} : ex1 G (.par is es) ρ φ = (evs G es ρ φ).bind fun xs φ1 => if is.length = xs.length ∧ ∀ i ∈ is, i < ρ.length then .ok (.nx ((is.zip xs).foldl (fun ρ p => ρ.set p.1 p.2.sl) ρ)) φ1 else .bad := by simp only [ex1]
theorem ex1_ret : ex1 G (.ret e) ρ φ = (ev G e ρ φ).bind fun x φ1 => .ok (.rt x) φ1 := by simp only [ex1]
theorem ex1_ret0 : ex1 G .ret0 ρ φ = .ok (.rt (.v .non)) φ := by simp only [ex1]
theorem ex1_ite {A B : List IS} : ex1 G (.ite c A B) ρ φ = (evT G c ρ φ).bind fun t φ1 => if t then exs G A ρ φ1 else exs G B ρ φ1 := by simp only [ex1]
theorem ex1_app {i j : Nat} {ds : List D} (h1 : ρ[i]? = some (.h j)) (h2 : φ[j]? = some (.lst ds)) : ex1 G (.app i e) ρ φ = (ev G e ρ φ).bind fun x φ1 => (frzX x φ1).bind fun d φ2 => match φ2[j]? with
        | some (.lst ds) => if ds.length < sizeLine then .ok (.nx ρ) (φ2.set j (.lst (ds ++ [d]))) else .bad
        | _ => .bad := by simp only [ex1, h1, h2] <;> rfl
theorem ex1_sti {i : Nat} {ie : IE} : ex1 G (.sti i ie e) ρ φ = (ev G e ρ φ).bind fun x φ1 => (frzX x φ1).bind fun d φ2 => match ρ[i]? with
    | some (.h j) => (ev G ie ρ φ2).bind fun y φ3 => match φ3[j]?, y with
      | some (.lst ds), .v (.int k) => match L2.ixN ds.length k with
        | some m => .ok (.nx ρ) (φ3.set j (.lst (ds.set m d)))
        | none => .bad
      | _, _ => .bad
    | _ => .bad := by simp only [ex1] <;> rfl
end
end Ev
/-! Part S: equality of data; sorted, distinct. -/
namespace Ev
open PySem PySem.Spec PyProof.Rows L2
theorem pys_ints : ∀ ns : List Int, D.pys (ns.map D.int) = some (ns.map PyData.int)
  | [] => rfl
  | n :: ns => by
    simp only [List.map_cons, D.pys, D.py, pys_ints ns]
theorem lay_ints : ∀ ns : List Int, PyData.canLayAll0 (ns.map PyData.int) = true
  | [] => rfl
  | n :: ns => by
    show (PyData.canLay0 (.int n) && PyData.canLayAll0 (ns.map PyData.int)) = true
    rw [lay_ints ns]; rfl
theorem dep_ints : ∀ ns : List Int, PyData.depthAll (ns.map PyData.int) = 0
  | [] => rfl
  | n :: ns => by
    show max (PyData.depth (.int n)) (PyData.depthAll (ns.map PyData.int)) = 0
    rw [dep_ints ns]; rfl
theorem eqv_ints : ∀ ns ms : List Int, PyData.eqvAll (ns.map PyData.int) (ms.map PyData.int) = decide (ns = ms)
  | [], [] => rfl
  | [], _ :: _ => rfl
  | _ :: _, [] => rfl
  | n :: ns, m :: ms => by
    show ((n == m) && PyData.eqvAll (ns.map PyData.int) (ms.map PyData.int)) = _
    rw [eqv_ints ns ms]
    by_cases h : n = m <;> by_cases h2 : ns = ms <;> simp [h, h2]
theorem shaped_ints (ns : List Int) : SeqAt.shaped (.list (ns.map PyData.int)) = true := by
  unfold SeqAt.shaped
  rw [Bool.and_eq_true, decide_eq_true_eq]
  refine ⟨lay_ints ns, ?_⟩
  show PyData.depthAll (ns.map PyData.int) + 1 ≤ 64
  rw [dep_ints]; decide
theorem eqB_ints (ns ms : List Int) : eqB (.lst (ns.map D.int)) (.lst (ms.map D.int)) = some (decide (ns = ms)) := by
  simp only [eqB, D.py, pys_ints, Option.map_some, shaped_ints, Bool.and_self, if_true]
  show some (PyData.eqvAll _ _) = _
  rw [eqv_ints]
/-- each smaller than the next -/
def adj : List Int → Bool
  | a :: b :: r => decide (a < b) && adj (b :: r)
  | _ => true
theorem adj_iff : ∀ ns : List Int, adj ns = true ↔ ns.Pairwise (· < ·)
  | [] => by simp [adj]
  | [_] => by simp [adj]
  | a :: b :: r => by
    rw [adj, Bool.and_eq_true, decide_eq_true_eq, adj_iff (b :: r)]
    constructor
    · rintro ⟨h1, h2⟩
      refine List.pairwise_cons.mpr ⟨fun x hx => ?_, h2⟩
      rcases List.mem_cons.mp hx with rfl | hx
      · exact h1
      · exact Int.lt_trans h1 ((List.pairwise_cons.mp h2).1 x hx)
    · intro h
      obtain ⟨h1, h2⟩ := List.pairwise_cons.mp h
      exact ⟨h1 b List.mem_cons_self, h2⟩
theorem nub_nodup : ∀ ns : List Int, (nub ns).Nodup
  | [] => List.nodup_nil
  | n :: ns => by
    unfold nub
    split
    · exact nub_nodup ns
    · rename_i h
      exact List.nodup_cons.mpr ⟨fun hm => h (mem_nub.mp hm), nub_nodup ns⟩
theorem nub_of_nodup : ∀ {ns : List Int}, ns.Nodup → nub ns = ns
  | [], _ => rfl
  | n :: ns, h => by
    obtain ⟨h1, h2⟩ := List.nodup_cons.mp h
    unfold nub
    rw [if_neg h1, nub_of_nodup h2]
theorem nub_len : ∀ ns : List Int, (nub ns).length ≤ ns.length
  | [] => Nat.le_refl _
  | n :: ns => by
    unfold nub
    have := nub_len ns
    split
    · simp only [List.length_cons]; omega
    · simp only [List.length_cons]; omega
theorem srt_nub {ns : List Int} : ns = srt (nub ns) ↔ adj ns = true := by
  rw [adj_iff]
  constructor
  · intro h
    have hs := srt_sorted (nub ns)
    have hn : (srt (nub ns)).Nodup := (srt_perm (nub ns)).nodup_iff.mpr (nub_nodup ns)
    rw [← h] at hs hn
    exact (hs.and hn).imp fun ⟨h1, h2⟩ => by omega
  · intro h
    have hn : ns.Nodup := h.imp fun h => by omega
    rw [nub_of_nodup hn]
    exact perm_sorted_eq (srt_perm ns).symm (h.imp fun h => by omega) (srt_sorted ns)
theorem evF_comp2 {G : List FSem} {own : List Nat} {tg : Tg} {it : II} {c : Option IE} {elt : IE} {ρ : List Sl} {φ φ1 : List O} {wk : Wk} {g : D → Option D} (hI : evI G it ρ φ = .ok wk φ1) (hl : wk.ds.length ≤ sizeLine)
    (h : ∀ d ∈ wk.ds, one1 own tg (fun ρ1 φ2 => evC G c ρ1 φ2) (fun ρ1 φ2 => ev G elt ρ1 φ2) ρ d φ1 = .ok (g d) φ1) : evF G (.comp own tg it c elt) ρ φ = .ok (.lst (wk.ds.filterMap g)) (unlock wk φ1) := by
  show (evI G it ρ φ).bind _ = _
  rw [hI]
  simp only [R.bind_ok, compX, if_pos hl, compL_map wk.ds h, R.nox_ok]
theorem rngL_len (a b : Int) : (rngL a b).length = (b - a).toNat := by simp [rngL]
theorem rngL_at {a b : Int} {j : Nat} {d : D} (h : (rngL a b)[j]? = some d) : d = .int (a + j) ∧ j < (b - a).toNat := by
  unfold rngL at h
  rw [List.getElem?_map, Option.map_eq_some_iff] at h
  obtain ⟨k, e, rfl⟩ := h
  obtain ⟨h1, h2⟩ := List.getElem?_eq_some_iff.mp e
  rw [List.getElem_range] at h2
  subst h2
  exact ⟨rfl, by simpa using h1⟩
theorem rngL_mem {a b : Int} {d : D} (h : d ∈ rngL a b) : ∃ i : Int, d = .int i ∧ a ≤ i ∧ i < b := by
  obtain ⟨j, hj⟩ := List.getElem?_of_mem h
  obtain ⟨e, h1⟩ := rngL_at hj
  exact ⟨_, e, by omega, by omega⟩
theorem enumL_len : ∀ (ds : List D) (k : Nat), (enumL ds k).length = ds.length
  | [], _ => rfl
  | _ :: r, k => by simp [enumL, enumL_len r (k + 1)]
theorem enumL_mem : ∀ {ds : List D} {k : Nat} {d : D}, d ∈ enumL ds k → ∃ (i : Nat) (x : D), d = .wtp [.int i, x] ∧ k ≤ i ∧ i < k + ds.length ∧ x ∈ ds
  | [], _, _, h => by simp [enumL] at h
  | x :: r, k, d, h => by
    simp only [enumL, List.mem_cons] at h
    rcases h with rfl | h
    · exact ⟨k, x, rfl, Nat.le_refl _, by simp, List.mem_cons_self⟩
    · obtain ⟨i, y, e, h1, h2, h3⟩ := enumL_mem h
      exact ⟨i, y, e, by omega, by simp; omega, List.mem_cons_of_mem _ h3⟩
theorem neD_nilT {xs : List D} {p : PyData} (e1 : D.py (.tup xs) = some p) (e2 : PyData.canLay0 p = true) (e3 : PyData.depth p ≤ 60) (hx : xs ≠ []) : neD (.tup xs) (.tup []) = some (.bl true) := by
  have q : ∃ y ys, p = .tuple (y :: ys) := by
    simp only [D.py] at e1
    cases xs with
    | nil => exact absurd rfl hx
    | cons x r =>
      simp only [D.pys] at e1
      cases hx1 : D.py x with
      | none => rw [hx1] at e1; cases e1
      | some a =>
        cases hr : D.pys r with
        | none => rw [hx1, hr] at e1; cases e1
        | some b => rw [hx1, hr] at e1; cases e1; exact ⟨_, _, rfl⟩
  obtain ⟨y, ys, rfl⟩ := q
  have s1 : SeqAt.shaped (.tuple (y :: ys)) = true := by
    unfold SeqAt.shaped
    rw [Bool.and_eq_true, decide_eq_true_eq]
    exact ⟨e2, by omega⟩
  have s2 : SeqAt.shaped (.tuple []) = true := rfl
  unfold neD
  simp only [eqB, e1]
  show Option.map _ (if (SeqAt.shaped (.tuple (y :: ys)) && SeqAt.shaped (.tuple [])) = true then some (PyData.eqvAll (y :: ys) []) else none) = _
  rw [s1, s2]; rfl
end Ev
/-! Part T: stars in displays, extend, a local name that holds a def. -/
namespace Ev
open PySem PySem.Spec PyProof.Rows L2
section
variable {L : Lw} {N : List Str} {sc : Scope} {ca : Str → Bool} {W : XK} {Ze : Addr → Prop} {w w0 w1 w2 w' : Wd} {σ : SS} {ρ ρ' : List Sl}
variable {a b c e i z : Expr} {es : List Expr} {pos apos cpos p p1 p2 p3 : Pos} {G : List FSem} {ia ib ic ie : IE} {ies iks : List IE} {x : Str} {j : Nat} {F : FSem} {sh : List (Nat × List Str)} {bs : List Bool}
theorem RepXs.ofReps {vs : List V} {ds : List D} (r : Reps L.K L.mg w.H (Z Ze w) vs ds) : RepXs L.K L.mg Ze w vs (ds.map X1.v) := by
  induction ds generalizing vs with
  | nil => cases r; exact .nil
  | cons d ds ih => cases r with | cons r t => exact .cons r (ih t)
theorem snz_nil : SndA L N sc ca W [] (evz G bs []) := ⟨tNil, fun X C => pa_nil, fun Ze w σ ρ Q ok rs h => by simp only [evz] at h; exact post.here ok h _ .nil⟩
theorem snz_cons (ha : SndE L N sc ca W e (ev G ie)) (hs : SndA L N sc ca W es (evz G bs ies)) (h : noStar e = true) : SndA L N sc ca W (e :: es) (evz G (false :: bs) (ie :: ies)) := by
  obtain ⟨ta, pa, sa⟩ := ha
  obtain ⟨ts, ps, ss⟩ := hs
  refine ⟨tCons ta ts, fun X C => pa_cons (pa X C) (ps X C) (starEach_cons h), fun Ze w σ ρ Q ok rs h => ?_⟩
  simp only [evz] at h
  refine sa Ze w σ ρ _ ok rs ((post.bind h).imp fun x w1 n1 h1 v r1 => ?_)
  refine ss Ze w1 σ ρ _ n1.ok (rs.nx ok n1.st) ((post.bind h1).imp fun xs w2 n2 h2 vs r2 => ?_)
  exact post.here n2.ok h2 _ (.cons (r1.nx n1.ok n2.st) r2)
theorem snz_star (ha : SndE L N sc ca W e (ev G ie)) (hs : SndA L N sc ca W es (evz G bs ies)) : SndA L N sc ca W (.Starred e p :: es) (evz G (true :: bs) (ie :: ies)) := by
  obtain ⟨ta, pa, sa⟩ := ha
  obtain ⟨ts, ps, ss⟩ := hs
  refine ⟨StX.tStar L.K ta ts, fun X C => by rw [← C.eK]; exact StX.pa_star (pa X C) (ps X C), fun Ze w σ ρ Q ok rs h => ?_⟩
  simp only [evz] at h
  refine sa Ze w σ ρ _ ok rs ((post.bind h).imp fun x w1 n1 h1 v r1 => ?_)
  cases q : (peek w1.φ x).bind D.items with
  | none => rw [q] at h1; exact h1.elim
  | some ys =>
    rw [q] at h1
    simp only at h1
    cases q2 : peek w1.φ x with
    | none => rw [q2] at q; cases q
    | some d =>
      rw [q2] at q
      have rb := peek_rep n1.ok r1 q2
      obtain ⟨a, vs, rfl, hseq, rr⟩ := rb.seq q
      refine ⟨a, vs, rfl, hseq.symm, ?_⟩
      have rx := RepXs.ofReps rr
      refine ss Ze w1 σ ρ _ n1.ok (rs.nx ok n1.st) ((post.bind h1).imp fun xs w2 n2 h2 us r2 => ?_)
      exact post.here n2.ok h2 _ ((rx.nx n1.ok n2.st).append r2)
theorem snd_tpz {k : Nat} (hs : SndA L N sc ca W es (evz G bs ies)) : SndE L N sc ca W (.Tuple es k pos) (ev G (.tpz bs ies)) := by
  obtain ⟨ts, ps, ss⟩ := hs
  refine ⟨tTupS ts, fun X C => pe_tupS (ps X C), fun Ze w σ ρ Q ok rs h => ?_⟩
  simp only [ev] at h
  refine ss Ze w σ ρ _ ok rs ((post.bind h).imp fun xs w1 n1 h1 vs r1 => ?_)
  obtain ⟨ds, w2, n2, e2, r2, h2⟩ := frzXs_post n1.ok r1 (post.bind h1)
  by_cases hl : ds.length ≤ sizeLine
  · rw [if_pos hl] at h2
    have ha := aft_of (L := L) (W := W) n2.ok h2
    rw [← e2]
    exact ⟨by rw [r2.length]; exact hl, ha.tup r2⟩
  · rw [if_neg hl] at h2; exact h2.elim
theorem snf_lsz (hs : SndA L N sc ca W es (evz G bs ies)) : SndF L N sc ca W (.List es pos) (evF G (.lsz bs ies)) := by
  obtain ⟨ts, ps, ss⟩ := hs
  refine ⟨tLst ts, fun X C => pe_lst (ps X C), fun Ze w σ ρ Q ok rs h => ?_⟩
  simp only [evF] at h
  refine ss Ze w σ ρ _ ok rs ((post.bind h).imp fun xs w1 n1 h1 vs r1 => ?_)
  obtain ⟨ds, w2, n2, e2, r2, h2⟩ := frzXs_post n1.ok r1 (post.bind h1)
  by_cases hl : ds.length ≤ sizeLine
  · rw [if_pos hl] at h2
    have ha := new_of (L := L) n2.ok (post.here n2.ok h2)
    rw [← e2]
    exact ⟨by rw [r2.length]; exact hl, ha.lst r2⟩
  · rw [if_neg hl] at h2; exact h2.elim
theorem vis_of {i : Nat} {x : Str} (hv : nameOk N sc i x = true) {X : Cx} (C : Ctx L N sc ca W X) : PE X (.Name x p) (tVar i) := by
  unfold nameOk at hv
  simp only [Bool.and_eq_true, decide_eq_true_eq, Bool.not_eq_true'] at hv
  obtain ⟨⟨⟨h1, h2⟩, h3⟩, h4⟩ := hv
  refine pe_var (by rw [C.eN]; exact h1) ?_ h3 h4
  unfold Vis
  rw [C.es]
  revert h2
  cases sc.names.lookup x with
  | none => intro h; cases h
  | some k => cases k <;> intro h <;> first | exact .inl rfl | exact .inr (.inl rfl) | exact .inr (.inr rfl) | cases h
/-- a call of a local name that holds one of several defs -/
def tCallH (L : Lw) (W : XK) (i n : Nat) (t : TA) : TE := fun σ H Q => ∃ (f : Addr) (fd : FuncData) (ps : List Str) (F : FSem), FnG L.P L.w L.K L.mg L.base (CX L.P L.w) L.k f fd ps (spF L.K L.mg F) ∧ PySem.W.keepIn L.K (.ref f) = true ∧ BindK fd ps n [] ∧ σ[i]? = some (some (.ref f)) ∧ t σ H fun vs H1 => vs.length = n ∧ spF L.K L.mg F vs H1 Q W
theorem snd_cloc {i : Nat} {ks : List (Str × Nat)} (hv : nameOk N sc i x = true) (hs : SndA L N sc ca W (e :: es) (evs G ies)) (hn : (e :: es).all noStar = true) (hk : ∀ (y : Str) (k : Nat), ks.lookup y = some k → ∃ F sh, G[k]? = some F ∧ Cal L y F sh ∧ ((e :: es).length, []) ∈ sh) (le : ies.length = (e :: es).length) :
    SndE L N sc ca W (.Call (.Name x p) (e :: es) [] pos) (ev G (.cloc i ks ies)) := by
  obtain ⟨ta, pa, sa⟩ := hs
  refine ⟨tCallH L W i (e :: es).length ta, fun X C => ?_, fun Ze w σ ρ Q ok rs h => ?_⟩
  · rw [List.all_cons, Bool.and_eq_true] at hn
    refine ⟨fun pins s σ H Q I h => ?_⟩
    obtain ⟨f, fd, ps, F, hF, hkp, hb, hs, ht⟩ := h
    refine wpAny_Call_Name_kw (thn ((vis_of (p := p) hv C).run pins s σ H (fun v H1 => v = .ref f ∧ H1 = H) I ⟨.ref f, hs, rfl, rfl⟩) fun u s1 ⟨v, H1, I1, r1, q1⟩ => ?_)
    obtain ⟨rfl, rfl⟩ := q1
    cases r1
    refine PySem.W.callWith_K (h₀ := X.base) I1.ok.mod.kin (by rw [C.eK]; exact hkp) (thn ((pa X C).run pos pins s1 σ _ _ I1 ht) fun us s2 ⟨vs, H2, I2, r, l1, q⟩ => ⟨I2.kIn, ?_⟩) (starEach_cons hn.1) (backTo_any hn.2)
    have hb' : BindsTo s2 fd ⟨us, ([] : List Str).zip []⟩ (ps.zip (us ++ [])) := .of_eq (hb us [] (by rw [← r.length]; exact l1) rfl)
    have hF' : FnG X.prog X.w X.K X.mg X.base (CX X.prog X.w) L.k f fd ps (spF L.K L.mg F) := by rw [C.eP, C.ew, C.eK, C.em, C.eb]; exact hF
    exact run_fnG hF' C.hr C.gd hb' (passesW C) I2 (by rw [List.append_nil]; exact r) q
  · simp only [ev] at h
    cases q : ρ[i]? with
    | none => rw [q] at h; exact h.elim
    | some s =>
      rw [q] at h
      cases s with
      | u => exact h.elim
      | h j => exact h.elim
      | v d =>
        cases d with
        | glo y =>
          simp only at h
          cases q2 : ks.lookup y with
          | none => rw [q2] at h; exact h.elim
          | some k =>
            rw [q2] at h
            simp only at h
            obtain ⟨F, sh, hG, hc, hsh⟩ := hk y k q2
            rw [hG] at h
            simp only at h
            obtain ⟨f, fd, ps, hF, hm, hkp, hb⟩ := hc.ex
            obtain ⟨v, ev', r⟩ := rs.get (x := .v (.glo y)) q
            cases r with
            | glo hm' =>
              rw [hm] at hm'; cases hm'
              refine ⟨f, fd, ps, F, hF, hkp, hb _ hsh, ev', ?_⟩
              refine sa Ze w σ ρ _ ok rs ((post_evs (post.bind h)).imp fun xs w1 n1 ⟨l1, h1⟩ vs r1 => ⟨by rw [r1.length, l1]; exact le, ?_⟩)
              exact call_read n1.ok r1 h1
        | _ => exact h.elim
theorem lk_nil {P : Str → Nat → Prop} : ∀ (y : Str) (k : Nat), ([] : List (Str × Nat)).lookup y = some k → P y k := fun _ _ h => nomatch h
theorem lk_cons {P : Str → Nat → Prop} {a : Str} {j : Nat} {r : List (Str × Nat)} (h : P a j) (t : ∀ (y : Str) (k : Nat), r.lookup y = some k → P y k) : ∀ (y : Str) (k : Nat), ((a, j) :: r).lookup y = some k → P y k := fun y k e => by
  rw [List.lookup_cons] at e
  by_cases q : (y == a) = true
  · rw [q] at e
    cases e
    rw [eq_of_beq q]; exact h
  · rw [Bool.not_eq_true] at q
    rw [q] at e
    exact t y k e
/-- a target among others is captured: the stores are not swapped -/
def capt (sc : Scope) (ts : List Expr) : Bool := ts.any fun
  | .Name x _ => decide (sc.names.lookup x ≠ some .local)
  | _ => true
theorem sw_cell {X : Cx} {ts vs : List Expr} {k k2 : Nat} (C : Ctx L N sc ca W X) (h : capt sc ts = true) : swappedStores [.Tuple ts k p] (.Tuple vs k2 p2) X.env = pure none := by
  have key : ∀ (line : Nat) (ts : List Expr), capt sc ts = true → (ts.filterMap fun
      | .Name id pos => if X.env.kindOf id == some .local && pos.line == line then some id else none
      | _ => none).length < ts.length := by
    intro line ts
    have le : ∀ ts : List Expr, (ts.filterMap fun
      | .Name id pos => if X.env.kindOf id == some .local && pos.line == line then some id else none
      | _ => none).length ≤ ts.length := fun ts => List.length_filterMap_le _ _
    induction ts with
    | nil => intro h; cases h
    | cons t r ih =>
      intro h
      unfold capt at h
      rw [List.any_cons, Bool.or_eq_true] at h
      rcases h with h | h
      · rw [List.filterMap_cons_none]
        · exact Nat.lt_succ_of_le (le r)
        · cases t with
          | Name x q =>
            simp only [decide_eq_true_eq] at h
            have hk : X.env.kindOf x = sc.names.lookup x := by unfold Env.kindOf; rw [C.es]
            simp only [hk]
            cases q2 : sc.names.lookup x with
            | none => rfl
            | some kd =>
              rw [q2] at h
              cases kd with
              | «local» => exact absurd rfl h
              | _ => rfl
          | _ => rfl
      · have := ih h
        rw [List.filterMap_cons]
        split
        · exact Nat.lt_succ_of_lt this
        · exact Nat.succ_lt_succ this
  have h2 := key ((ts.head?.map (·.pos.line)).getD 0) ts h
  unfold swappedStores
  simp only []
  split
  · rfl
  · split
    · rfl
    · split
      · rfl
      · rename_i h3
        exfalso
        apply h3
        rw [Bool.or_eq_true]
        refine .inl ?_
        rw [bne_iff_ne]
        exact Nat.ne_of_lt h2
/-- name.extend(e) -/
theorem sns_ext {i : Nat} {x : Str} (ha : SndE L N sc ca W e (ev G ie)) (hv : nameOk N sc i x = true) (hs : noStar e = true) (hl : (apos.endLine == cpos.line) = true) :
    SndS L N sc ca W (.Expr (.Call (.Attribute (.Name x p) "extend" apos) [e] [] cpos) pos) (ex1 G (.ext i ie)) := by
  obtain ⟨ta, pa, sa⟩ := ha
  refine ⟨tDrop (tBM L.K "list" rExtend (tVar i) (tCons ta tNil)), fun X C => ?_, fun Ze w σ ρ D ok rs h => ?_⟩
  · have hs1 : starEach [e] X.env = (false, eval e X.env) :: starEach [] X.env := starEach_cons hs
    rw [← C.eK]
    exact ps_expr (pe_bm F.plainAttrs_list F.slot_list_extend F.type_list_extend (fun pins s σ H x xs v us Q I rx rv h => mt_extend pins s σ H x xs v us Q I rx rv h) (vis_of hv C) (pa_cons (pa X C) pa_nil hs1) rfl
      (few_of (by simp [hs]) (by simp)) hl hs1 rfl) (sw_false rfl)
  · simp only [ex1] at h
    cases q : ρ[i]? with
    | none => rw [q] at h; exact h.elim
    | some s =>
      cases s with
      | u => rw [q] at h; exact h.elim
      | v d => rw [q] at h; exact h.elim
      | h j =>
        rw [q] at h
        obtain ⟨a, ea, es⟩ := slot_h rs q
        simp only at h
        cases q1 : w.φ[j]? with
        | none => rw [q1] at h; exact h.elim
        | some o =>
          cases o with
          | lst ds0 =>
            rw [q1] at h
            obtain ⟨vs0, hv0, _⟩ := ok.store j a _ ea q1
            refine ⟨.ref a, es, .inl ⟨rfl, vs0, SqL.of hv0⟩, ?_⟩
            refine sa Ze w σ ρ _ ok rs ((post.bind h).imp fun x w1 n1 h1 v r1 => ?_)
            have ea1 := adr_nx n1.st ea
            cases q2 : w1.φ[j]? with
            | none => rw [q2] at h1; exact h1.elim
            | some o =>
              cases o with
              | lst ds =>
                rw [q2] at h1
                cases q3 : peek w1.φ x with
                | none => rw [q3] at h1; exact h1.elim
                | some d3 =>
                  cases d3 with
                  | lst es3 =>
                    rw [q3] at h1
                    obtain ⟨vs, hv, rv⟩ := n1.ok.store j a _ ea1 q2
                    obtain ⟨b, us, rfl, hb, ru⟩ := (peek_rep n1.ok r1 q3).lstI
                    simp only at h1
                    split at h1
                    · rename_i hz
                      show rExtend (.ref a) [.ref b] w1.H (fun x H1 => D.nx σ H1)
                      refine ⟨a, b, vs, us, rfl, rfl, hv, hb, by rw [rv.length, ru.length]; exact hz, ?_⟩
                      have n3 := lst_turn n1.ok ea1 q2 hv (rv.append ru)
                      exact h1 _ rfl n3 σ ((rs.nx ok n1.st).nx n1.ok n3.st)
                    · exact h1.elim
                  | _ => rw [q3] at h1; exact h1.elim
              | _ => rw [q2] at h1; exact h1.elim
          | _ => rw [q1] at h; exact h.elim
end
end Ev
/-! Part U: more reckoning: loops that look for something, loops that fold, pairs of a range. -/
namespace Ev
open PySem PySem.Spec PyProof.Rows L2
theorem forL_find {f : D → List Sl → List O → R Out} {q : D → Option X1} {I : List Sl → Prop} {φ : List O} : ∀ (ds : List D), (∀ d ∈ ds, ∀ ρ, I ρ → (q d = none → ∃ ρ', f d ρ φ = .ok (.nx ρ') φ ∧ I ρ') ∧ (∀ x, q d = some x → f d ρ φ = .ok (.rt x) φ)) → ∀ ρ, I ρ → (ds.findSome? q = none → ∃ ρ', forL f ds ρ φ = .ok (.nx ρ') φ ∧ I ρ') ∧ (∀ x, ds.findSome? q = some x → forL f ds ρ φ = .ok (.rt x) φ)
  | [], _, ρ, hI => ⟨fun _ => ⟨ρ, rfl, hI⟩, fun _ h => by cases h⟩
  | d :: ds, h, ρ, hI => by
    obtain ⟨h1, h2⟩ := h d List.mem_cons_self ρ hI
    rw [List.findSome?_cons]
    cases hq : q d with
    | some x =>
      refine ⟨fun h => (nomatch h), fun y hy => ?_⟩
      cases hy
      exact forL_rt (h2 x hq)
    | none =>
      obtain ⟨ρ1, e1, hI1⟩ := h1 hq
      have ih := forL_find ds (fun d' hd => h d' (List.mem_cons_of_mem _ hd)) ρ1 hI1
      rw [forL_nx e1]
      exact ih
theorem forL_fold {S : Type} {f : D → List Sl → List O → R Out} {g : S → D → S} {I : S → List Sl → Prop} {φ : List O} : ∀ (ds : List D), (∀ d ∈ ds, ∀ s ρ, I s ρ → ∃ ρ', f d ρ φ = .ok (.nx ρ') φ ∧ I (g s d) ρ') → ∀ s ρ, I s ρ → ∃ ρ', forL f ds ρ φ = .ok (.nx ρ') φ ∧ I (ds.foldl g s) ρ'
  | [], _, s, ρ, hI => ⟨ρ, rfl, hI⟩
  | d :: ds, h, s, ρ, hI => by
    obtain ⟨ρ1, e1, hI1⟩ := h d List.mem_cons_self s ρ hI
    rw [forL_nx e1]
    exact forL_fold ds (fun d' hd => h d' (List.mem_cons_of_mem _ hd)) _ ρ1 hI1
theorem foldl_or2 {p r : D → Bool} : ∀ (ds : List D) (s : Bool × Bool), ds.foldl (fun s d => (s.1 || p d, s.2 || r d)) s = (s.1 || ds.any p, s.2 || ds.any r)
  | [], s => by simp
  | d :: ds, s => by
    rw [List.foldl_cons, foldl_or2 ds]
    simp [Bool.or_assoc]
section
variable {G : List FSem} {ρ : List Sl} {φ : List O} {e : IE}
theorem ex1_ext {i j : Nat} {ds : List D} (h1 : ρ[i]? = some (.h j)) (h2 : φ[j]? = some (.lst ds)) : ex1 G (.ext i e) ρ φ = (ev G e ρ φ).bind fun x φ1 => match φ1[j]?, peek φ1 x with
    | some (.lst ds), some (.lst es) => if ds.length + es.length ≤ sizeLine then .ok (.nx ρ) (φ1.set j (.lst (ds ++ es))) else .bad
    | _, _ => .bad := by
  simp only [ex1, h1, h2] <;> rfl
theorem ev_cloc {i k : Nat} {ks : List (Str × Nat)} {es : List IE} {x : Str} {F : FSem} (h1 : ρ[i]? = some (.v (.glo x))) (h2 : ks.lookup x = some k) (h3 : G[k]? = some F) : ev G (.cloc i ks es) ρ φ = (evs G es ρ φ).bind fun xs φ1 => callX F xs φ1 := by
  simp only [ev, h1, h2]
  cases evs G es ρ φ with
  | bad => rfl
  | exc c d ψ => rfl
  | ok xs φ1 => simp only [R.bind_ok, h3]
end
theorem rngL_iff {a b i : Int} : D.int i ∈ rngL a b ↔ a ≤ i ∧ i < b := by
  constructor
  · intro h
    obtain ⟨j, e, h1, h2⟩ := rngL_mem h
    cases e
    exact ⟨h1, h2⟩
  · rintro ⟨h1, h2⟩
    unfold rngL
    refine List.mem_map.mpr ⟨(i - a).toNat, List.mem_range.mpr (by omega), ?_⟩
    congr 1
    omega
/-! ### pairs one ≤ other, together at most n -/
def fst2 (pr : Int → Int → Bool) (one : Int) : D → Option X1
  | .int o => if pr one o then some (.v (.tup [.int one, .int o])) else none
  | _ => none
def find2 (n m : Int) (pr : Int → Int → Bool) : Option X1 := (rngL 1 m).findSome? fun d => match d with
  | .int one => (rngL one (n - one)).findSome? (fst2 pr one)
  | _ => none
def any1 (pr : Int → Int → Bool) (one : Int) : D → Bool
  | .int o => pr one o
  | _ => false
def any2 (n m : Int) (pr : Int → Int → Bool) : Bool := (rngL 1 m).any fun d => match d with
  | .int one => (rngL one (n - one)).any (any1 pr one)
  | _ => false
theorem any2_t {n m : Int} {pr : Int → Int → Bool} (h : any2 n m pr = true) : ∃ a b, 1 ≤ a ∧ a ≤ b ∧ a + b < n ∧ pr a b = true := by
  unfold any2 at h
  obtain ⟨d, hd, h⟩ := List.any_eq_true.mp h
  obtain ⟨a, rfl, h1, h2⟩ := rngL_mem hd
  obtain ⟨e, he, h⟩ := List.any_eq_true.mp h
  obtain ⟨b, rfl, h3, h4⟩ := rngL_mem he
  exact ⟨a, b, h1, h3, by omega, h⟩
theorem any2_f {n m : Int} {pr : Int → Int → Bool} (hm : n ≤ 2 * m) (h : any2 n m pr = false) (a b : Int) (h1 : 1 ≤ a) (h2 : a ≤ b) (h3 : a + b < n) : pr a b = false := by
  cases q : pr a b with
  | false => rfl
  | true =>
    have : any2 n m pr = true := List.any_eq_true.mpr ⟨.int a, rngL_iff.mpr ⟨h1, by omega⟩, List.any_eq_true.mpr ⟨.int b, rngL_iff.mpr ⟨h2, by omega⟩, q⟩⟩
    rw [h] at this; cases this
theorem find2_none {n m : Int} {pr : Int → Int → Bool} (h : find2 n m pr = none) : any2 n m pr = false := by
  unfold find2 at h
  rw [List.findSome?_eq_none_iff] at h
  cases q : any2 n m pr with
  | false => rfl
  | true =>
    unfold any2 at q
    obtain ⟨d, hd, q⟩ := List.any_eq_true.mp q
    have h' := h d hd
    obtain ⟨a, rfl, h1, h2⟩ := rngL_mem hd
    obtain ⟨e, he, q⟩ := List.any_eq_true.mp q
    have h'' := List.findSome?_eq_none_iff.mp h' e he
    obtain ⟨b, rfl, h3, h4⟩ := rngL_mem he
    have q' : pr a b = true := q
    simp [fst2, q'] at h''
theorem find2_some {n m : Int} {pr : Int → Int → Bool} {x : X1} (h : find2 n m pr = some x) : any2 n m pr = true ∧ ∃ a b, x = .v (.tup [.int a, .int b]) ∧ 1 ≤ a ∧ a ≤ b ∧ a + b < n ∧ pr a b = true := by
  unfold find2 at h
  obtain ⟨d, hd, h⟩ := List.exists_of_findSome?_eq_some h
  obtain ⟨a, rfl, h1, h2⟩ := rngL_mem hd
  obtain ⟨e, he, h⟩ := List.exists_of_findSome?_eq_some h
  obtain ⟨b, rfl, h3, h4⟩ := rngL_mem he
  have q : pr a b = true ∧ x = .v (.tup [.int a, .int b]) := by
    simp only [fst2] at h
    split at h
    · rename_i q; cases h; exact ⟨q, rfl⟩
    · cases h
  obtain ⟨q, rfl⟩ := q
  refine ⟨List.any_eq_true.mpr ⟨_, hd, List.any_eq_true.mpr ⟨_, he, q⟩⟩, a, b, rfl, h1, h3, by omega, q⟩
end Ev
/-! Part W: what repr tells apart; whiles; sorted. -/
namespace Ev
open PySem PySem.Spec PyProof.Rows L2
theorem ofString_inj {a b : String} (h : Str.ofString a = Str.ofString b) : a = b := by
  rw [Str.ofString_eq_toList, Str.ofString_eq_toList] at h
  have h1 : a.toList.map Char.toNat = b.toList.map Char.toNat := by
    have := congrArg (fun s : Str => s.cps.toList) h
    simpa using this
  have h2 : a.toList = b.toList := by
    have inj : ∀ {x y : Char}, x.toNat = y.toNat → x = y := fun {x y} h => Char.ext (UInt32.toNat_inj.mp h)
    have go : ∀ {l m : List Char}, l.map Char.toNat = m.map Char.toNat → l = m := by
      intro l
      induction l with
      | nil => intro m h; cases m with | nil => rfl | cons _ _ => cases h
      | cons x l ih =>
        intro m h
        cases m with
        | nil => cases h
        | cons y m =>
          simp only [List.map_cons, List.cons.injEq] at h
          rw [inj h.1, ih h.2]
    exact go h1
  exact String.toList_inj.mp h2
theorem show_int_inj {i j : Int} (h : Str.ofString (toString i) = Str.ofString (toString j)) : i = j := Int.repr_injective (ofString_inj h)
/-- repr of a: it is an int's only if a is that int -/
def RB (a : D) : Prop := ∃ st, reprD [a] = some (.str st) ∧ ∀ n : Int, st = Str.ofString (toString n) ↔ a = .int n
theorem rb_int {i : Int} (h : i.natAbs ≤ 10000000) : RB (.int i) := by
  refine ⟨Str.ofString (toString i), ?_, fun n => ⟨fun e => by rw [show_int_inj e], fun e => by cases e; rfl⟩⟩
  simp only [reprD]
  rw [if_pos (Nat.lt_of_le_of_lt h (Nat.lt_of_lt_of_le (by decide : 10000000 < 2 ^ 24) (Nat.pow_le_pow_right (by decide) (by decide))))]
theorem not_show {st : Str} {k : Nat} (hk : k ≠ 45 ∧ (k < 48 ∨ 57 < k)) (h : k ∈ st.cps.toList) (n : Int) : st ≠ Str.ofString (toString n) := fun e => by
  rw [e] at h
  exact shown_int_free' hk n h
theorem rb_bl (b : Bool) : RB (.bl b) := by
  refine ⟨_, rfl, fun n => ⟨fun e => ?_, fun e => nomatch e⟩⟩
  cases b with
  | true => exact absurd e (not_show (k := 84) (by decide) (by decide +kernel) n)
  | false => exact absurd e (not_show (k := 70) (by decide) (by decide +kernel) n)
theorem rb_non : RB .non := ⟨_, rfl, fun n => ⟨fun e => absurd e (not_show (k := 78) (by decide) (by decide +kernel) n), fun e => nomatch e⟩⟩
theorem reprText_mem (x : Str) : reprQuote x ∈ (reprText x).cps.toList := by
  unfold reprText
  simp
theorem reprQuote_or (x : Str) : reprQuote x = 39 ∨ reprQuote x = 34 := by
  unfold reprQuote
  split <;> simp
/-- a datum that repr shows -/
structure RP (p : PyData) (w : Nat) : Prop where
  sh : p.showable = true
  nd : p.hasDict = false
  cl : PyData.canLay0 p = true
  dp : PyData.depth p ≤ 60
  wt : PyData.weight p ≤ w
  si : p.intsShort 13 = true
theorem RP.ok {p : PyData} {w : Nat} (r : RP p w) (hw : w ≤ 2 ^ 20) : showOk p = true := by
  unfold showOk
  have h1 : p.shown.length ≤ 15728653 := shown_le13 (by
    show (PyData.canLay0 p && decide (PyData.depth p ≤ 64) && decide (PyData.weight p ≤ 2 ^ 20)) = true
    simp only [Bool.and_eq_true, decide_eq_true_eq]
    exact ⟨⟨r.cl, Nat.le_trans r.dp (by decide)⟩, Nat.le_trans r.wt hw⟩) r.si
  simp only [Bool.and_eq_true, decide_eq_true_eq, Bool.not_eq_true']
  exact ⟨⟨⟨r.sh, r.nd⟩, r.dp⟩, Nat.le_trans h1 (by decide)⟩
theorem rb_str {s : Str} (h : PyData.strOk s = true) (hl : s.length ≤ 1000) : RB (.str s) := by
  have r : RP (.str s) 1000 := ⟨rfl, rfl, by simpa [PyData.canLay0] using h, Nat.zero_le _, hl, rfl⟩
  refine ⟨reprText s, ?_, fun n => ⟨fun e => ?_, fun e => nomatch e⟩⟩
  · show (if showOk (.str s) then some (D.str (PyData.str s).shown) else none) = _
    rw [if_pos (r.ok (by decide))]; rfl
  · rcases reprQuote_or s with q | q
    · exact absurd e (not_show (k := 39) (by decide) (q ▸ reprText_mem s) n)
    · exact absurd e (not_show (k := 34) (by decide) (q ▸ reprText_mem s) n)
theorem rb_tup {xs : List D} {p : PyData} {w : Nat} (e : D.py (.tup xs) = some p) (r : RP p w) (hw : w ≤ 2 ^ 20) : RB (.tup xs) := by
  refine ⟨p.shown, ?_, fun n => ⟨fun e2 => ?_, fun e => nomatch e⟩⟩
  · show ((D.py (.tup xs)).bind fun p => if showOk p then some (D.str p.shown) else none) = _
    rw [e]
    show (if showOk p then some (D.str p.shown) else none) = _
    rw [if_pos (r.ok hw)]
  · simp only [D.py] at e
    cases q : D.pys xs with
    | none => rw [q] at e; cases e
    | some ps =>
      rw [q] at e; cases e
      refine absurd e2 (not_show (k := 40) (by decide) ?_ n)
      show 40 ∈ (tupleText _).cps.toList
      unfold tupleText
      show 40 ∈ ((Str.append (Str.append "(" _) _)).cps.toList
      unfold Str.append
      simp only [Array.toList_append, List.mem_append]
      exact .inl (.inl (by decide +kernel))
theorem evI_rng2 {G : List FSem} {a b : IE} {i j : Int} {ρ : List Sl} {φ : List O} (ha : ev G a ρ φ = .ok (.v (.int i)) φ) (hb : ev G b ρ φ = .ok (.v (.int j)) φ) (h1 : inRng i = true) (h2 : inRng j = true) : evI G (.rng2 a b) ρ φ = .ok ⟨rngL i j, true, []⟩ φ := by
  show (ev G a ρ φ).bind _ = _
  rw [ha, R.bind_ok, hb, R.bind_ok]
  show (if (inRng i && inRng j) = true then R.ok (⟨rngL i j, true, []⟩ : Wk) φ else R.bad) = _
  rw [h1, h2]; rfl
theorem evI_rng1 {G : List FSem} {a : IE} {i : Int} {ρ : List Sl} {φ φ1 : List O} (ha : ev G a ρ φ = .ok (.v (.int i)) φ1) (h1 : inRng i = true) : evI G (.rng1 a) ρ φ = .ok ⟨rngL 0 i, true, []⟩ φ1 := by
  show (ev G a ρ φ).bind _ = _
  rw [ha, R.bind_ok]
  show (if inRng i = true then R.ok (⟨rngL 0 i, true, []⟩ : Wk) φ1 else R.bad) = _
  rw [h1]; rfl
theorem inRng_of {i : Int} (h0 : -1000000 ≤ i) (h1 : i ≤ 1000000) : inRng i = true := by
  unfold inRng
  rw [Bool.and_eq_true, decide_eq_true_eq, decide_eq_true_eq]
  constructor <;> omega
/-- a def's run: a tree comes back -/
theorem evFn_v {G : List FSem} {np n : Nat} {body : List IS} {xs : List X1} {φ ψ : List O} {d : D} {ρ : List Sl} (h : exs G body ρ φ = .ok (.rt (.v d)) ψ) (hl : xs.length = np ∧ np ≤ n) (hρ : xs.map X1.sl ++ List.replicate (n - np) .u = ρ) : evFn G np n body xs φ = .ok (.v d) (ψ.take φ.length) := by
  subst hρ
  unfold evFn
  rw [if_pos hl, h]; rfl
/-- .. a new list -/
theorem evFn_l {G : List FSem} {np n : Nat} {body : List IS} {xs : List X1} {φ ψ : List O} {j : Nat} {ds : List D} {ρ : List Sl} (h : exs G body ρ φ = .ok (.rt (.h j)) ψ) (hl : xs.length = np ∧ np ≤ n) (hρ : xs.map X1.sl ++ List.replicate (n - np) .u = ρ) (hj : φ.length ≤ j) (ho : ψ[j]? = some (.lst ds)) : evFn G np n body xs φ = .ok (.h φ.length) (ψ.take φ.length ++ [.lst ds]) := by
  subst hρ
  unfold evFn
  rw [if_pos hl, h]
  show Ev.finish φ.length (.h j) ψ = _
  unfold Ev.finish
  simp only
  rw [if_neg (by omega), ho]
/-- a while, by what is left -/
theorem whl_inv {test : List Sl → List O → R Bool} {step : List Sl → List O → R Out} (P : Nat → List Sl → List O → Prop) (h0 : ∀ ρ φ, P 0 ρ φ → test ρ φ = .ok false φ)
    (hs : ∀ n ρ φ, P (n + 1) ρ φ → test ρ φ = .ok true φ ∧ ∃ m ρ' φ', m ≤ n ∧ step ρ φ = .ok (.nx ρ') φ' ∧ P m ρ' φ') : ∀ (f n : Nat) (ρ : List Sl) (φ : List O), n < f → P n ρ φ → ∃ ρ' φ', whlL test step f ρ φ = .ok (.nx ρ') φ' ∧ P 0 ρ' φ'
  | 0, n, ρ, φ, h, _ => absurd h (Nat.not_lt_zero _)
  | f + 1, 0, ρ, φ, _, hP => ⟨ρ, φ, by simp only [whlL, h0 ρ φ hP, R.bind_ok]; rfl, hP⟩
  | f + 1, n + 1, ρ, φ, h, hP => by
    obtain ⟨h1, m, ρ', φ', hm, h2, h3⟩ := hs n ρ φ hP
    obtain ⟨ρ2, φ2, e, h4⟩ := whl_inv P h0 hs f m ρ' φ' (by omega) h3
    refine ⟨ρ2, φ2, ?_, h4⟩
    simp only [whlL, h1, R.bind_ok, if_true, h2, e]
theorem ex1_whl {G : List FSem} {n : Nat} {c : IE} {body : List IS} {ρ : List Sl} {φ : List O} : ex1 G (.whl n c body) ρ φ = whlL (fun ρ1 φ1 => evT G c ρ1 φ1) (fun ρ1 φ1 => exs G body ρ1 φ1) n ρ φ := by simp only [ex1]
end Ev
namespace K38
open PySem PySem.Spec PyProof.Rows L2 Ev
def N_is_integer : List Str := ["value"]
def il_is_integer : List IS := [
  .ret (.and (.bi .isi [(.slot 0), (.glo "int" (.ty .int))]) (.not (.bi .isi [(.slot 0), (.glo "bool" (.ty .bool))])))]
def F_is_integer : FSem := evFn [] 1 1 il_is_integer
def N_is_between : List Str := ["value", "least", "most"]
def il_is_between : List IS := [
  .ret (.and (.call 0 [(.slot 0)]) (.chn .LtE .LtE (.slot 1) (.slot 0) (.slot 2)))]
def F_is_between : FSem := evFn [F_is_integer] 3 3 il_is_between
def N_are_steps : List Str := ["value", "step", "one", "other"]
def il_are_steps : List IS := [
  .ite (.or (.not (.bi .isi [(.slot 0), (.glo "tuple" (.ty .tup))])) (.not (.chn .Lt .LtE (.con (.int 0)) (.bi .len [(.slot 0)]) (.glo "MOST_STEPS" (.int 8))))) [
    .ret (.con (.bl false))] [],
  .for (.nm 1) (.seq (.slot 0)) [
    .ite (.or (.not (.bi .isi [(.slot 1), (.glo "tuple" (.ty .tup))])) (.or (.cmp .NotEq (.bi .len [(.slot 1)]) (.con (.int 2))) (.not (.call 0 [(.ix (.slot 1) (.con (.int 0))), (.con (.int 1)), (.glo "MOST_DAYS" (.int 400))])))) [
      .ret (.con (.bl false))] [],
    .ite (.not (.call 0 [(.ix (.slot 1) (.con (.int 1))), (.con (.int 0)), (.glo "MOST_EACH" (.int 999))])) [
      .ret (.con (.bl false))] []],
  .ret (.and (.cmp .Eq (.ix (.ix (.slot 0) (.con (.int 0))) (.con (.int 0))) (.con (.int 1))) (.bi .all [(.frz (.comp [2, 3] (.tp [(.nm 2), (.nm 3)]) (.zip (.slot 0) (.sl (.slot 0) (some (.con (.int 1))) none)) none (.cmp .Lt (.ix (.slot 2) (.con (.int 0))) (.ix (.slot 3) (.con (.int 0))))))]))]
def F_are_steps : FSem := evFn [F_is_between] 1 4 il_are_steps
def N_is_scale : List Str := ["value"]
def il_is_scale : List IS := [
  .ite (.or (.not (.bi .isi [(.slot 0), (.glo "tuple" (.ty .tup))])) (.or (.cmp .NotEq (.bi .len [(.slot 0)]) (.glo "PARTS" (.int 3))) (.not (.call 0 [(.ix (.slot 0) (.con (.int 0))), (.con (.int 0)), (.glo "MOST_FREE" (.int 99))])))) [
    .ret (.con (.bl false))] [],
  .ret (.and (.call 1 [(.ix (.slot 0) (.con (.int 1)))]) (.or (.cmp .Is (.ix (.slot 0) (.con (.int 2))) (.con .non)) (.call 0 [(.ix (.slot 0) (.con (.int 2))), (.con (.int 0)), (.glo "MOST_SUM" (.int 99999))])))]
def F_is_scale : FSem := evFn [F_is_between, F_are_steps] 1 1 il_is_scale
def N_check_scale : List Str := ["scale"]
def il_check_scale : List IS := [
  .ite (.not (.call 0 [(.slot 0)])) [
    .never] []]
def F_check_scale : FSem := evFn [F_is_scale] 1 1 il_check_scale
def N_check_days : List Str := ["days", "least"]
def il_check_days : List IS := [
  .ite (.not (.call 0 [(.slot 0), (.slot 1), (.glo "MOST_DAYS" (.int 400))])) [
    .never] []]
def F_check_days : FSem := evFn [F_is_between] 2 2 il_check_days
def N_costs_by : List Str := ["scale", "count", "free", "steps", "most", "found", "each", "told", "cost"]
def il_costs_by : List IS := [
  .asg (.tp [(.nm 2), (.nm 3), (.nm 4)]) (.slot 0),
  .par [5, 6, 7] [(.new (.rep (.frz (.lst [(.con (.int 0))])) (.bin .Add (.slot 2) (.con (.int 1))))), (.con (.int 0)), (.frz (.bi .dict (.slot 3)))],
  .for (.nm 1) (.rng2 (.con (.int 1)) (.bin .Add (.bin .Sub (.glo "MOST_DAYS" (.int 400)) (.slot 2)) (.con (.int 1)))) [
    .asg (.nm 6) (.dg2 (.slot 7) (.slot 1) (.slot 6)),
    .app 5 (.bin .Add (.ix (.slot 5) (.neg (.con (.int 1)))) (.slot 6))],
  .ret (.frz (.comp [8] (.nm 8) (.seq (.slot 5)) none (.ifx (.cmp .Is (.slot 4) (.con .non)) (.slot 8) (.bi .min [(.slot 8), (.slot 4)]))))]
def F_costs_by : FSem := evFn [] 1 9 il_costs_by
def N_fine : List Str := ["scale", "days"]
def il_fine : List IS := [
  .ex (.call 2 [(.slot 0)]),
  .ex (.call 1 [(.slot 1), (.con (.int 0))]),
  .ret (.ix (.call 0 [(.slot 0)]) (.slot 1))]
def F_fine : FSem := evFn [F_costs_by, F_check_days, F_check_scale] 2 2 il_fine
def N_best_cuts : List Str := ["costs", "days", "sign", "found", "many", "part"]
def C_best_cuts_1 : IF := (.comp [5] (.nm 5) (.rng2 (.con (.int 1)) (.bin .Add (.slot 4) (.con (.int 1)))) none (.tup [(.bin .Add (.ix (.ix (.slot 3) (.bin .Sub (.slot 4) (.slot 5))) (.con (.int 0))) (.bin .Mult (.slot 2) (.ix (.slot 0) (.slot 5)))), (.slot 5)]))
def B_best_cuts_1 : List IS := [
    .app 3 (.bi .min [(.frz C_best_cuts_1)])]
def il_best_cuts : List IS := [
  .asg (.nm 3) (.new (.lst [(.tup [(.con (.int 0)), (.con (.int 0))])])),
  .for (.nm 4) (.rng2 (.con (.int 1)) (.bin .Add (.slot 1) (.con (.int 1)))) B_best_cuts_1,
  .ret (.slot 3)]
def F_best_cuts : FSem := evFn [] 3 6 il_best_cuts
def N_told_cut : List Str := ["scale", "days", "sign", "rows", "left", "cut"]
def B_told_cut_1 : List IS := [
    .app 5 (.ix (.ix (.slot 3) (.slot 4)) (.con (.int 1))),
    .asg (.nm 4) (.bin .Sub (.slot 4) (.ix (.ix (.slot 3) (.slot 4)) (.con (.int 1))))]
def il_told_cut : List IS := [
  .par [3, 4, 5] [(.call 0 [(.call 1 [(.slot 0)]), (.slot 1), (.slot 2)]), (.slot 1), (.new (.lst []))],
  .whl 1000 (.cmp .Gt (.slot 4) (.con (.int 0))) B_told_cut_1,
  .ret (.tup [(.bin .Mult (.slot 2) (.ix (.ix (.slot 3) (.slot 1)) (.con (.int 0)))), (.bi .tuple [(.frz (.bi .sorted (.slot 5)))])])]
def F_told_cut : FSem := evFn [F_best_cuts, F_costs_by] 3 6 il_told_cut
def N_least_cut : List Str := ["scale", "days"]
def il_least_cut : List IS := [
  .ex (.call 2 [(.slot 0)]),
  .ex (.call 1 [(.slot 1), (.con (.int 1))]),
  .ret (.call 0 [(.slot 0), (.slot 1), (.con (.int 1))])]
def F_least_cut : FSem := evFn [F_told_cut, F_check_days, F_check_scale] 2 2 il_least_cut
def N_are_sums : List Str := ["value", "row", "one", "other"]
def C_are_sums_1 : IF := (.comp [2, 3] (.tp [(.nm 2), (.nm 3)]) (.zip (.slot 0) (.sl (.slot 0) (some (.con (.int 1))) none)) none (.cmp .Lt (.ix (.slot 2) (.con (.int 0))) (.ix (.slot 3) (.con (.int 0)))))
def B_are_sums_1 : List IS := [
    .ite (.or (.not (.bi .isi [(.slot 1), (.glo "tuple" (.ty .tup))])) (.or (.cmp .NotEq (.bi .len [(.slot 1)]) (.con (.int 2))) (.not (.call 0 [(.ix (.slot 1) (.con (.int 0))), (.con (.int 1)), (.glo "MOST_DAYS" (.int 400))])))) [
      .ret (.con (.bl false))] [],
    .ite (.not (.call 0 [(.ix (.slot 1) (.con (.int 1))), (.con (.int 0)), (.glo "MOST_SUM" (.int 99999))])) [
      .ret (.con (.bl false))] []]
def il_are_sums : List IS := [
  .ite (.or (.not (.bi .isi [(.slot 0), (.glo "tuple" (.ty .tup))])) (.not (.chn .Lt .LtE (.con (.int 0)) (.bi .len [(.slot 0)]) (.glo "MOST_SUMS" (.int 30))))) [
    .ret (.con (.bl false))] [],
  .for (.nm 1) (.seq (.slot 0)) B_are_sums_1,
  .ret (.bi .all [(.frz C_are_sums_1)])]
def F_are_sums : FSem := evFn [F_is_between] 1 4 il_are_sums
def N_check_sums : List Str := ["sums"]
def il_check_sums : List IS := [
  .ite (.not (.call 0 [(.slot 0)])) [
    .never] []]
def F_check_sums : FSem := evFn [F_are_sums] 1 1 il_check_sums
def N_least_rows : List Str := ["sums", "days", "found", "many", "rows", "at", "own", "cost"]
def C_least_rows_1 : IF := (.comp [5, 6, 7] (.tp [(.nm 5), (.tp [(.nm 6), (.nm 7)])]) (.enum (.slot 0)) none (.tup [(.bin .Add (.ix (.ix (.slot 2) (.bi .max [(.con (.int 0)), (.bin .Sub (.slot 3) (.slot 6))])) (.con (.int 0))) (.slot 7)), (.slot 5)]))
def B_least_rows_1 : List IS := [
    .asg (.nm 4) (.frz C_least_rows_1),
    .app 2 (.bi .min [(.slot 4)])]
def il_least_rows : List IS := [
  .asg (.nm 2) (.new (.lst [(.tup [(.con (.int 0)), (.con (.int 0))])])),
  .for (.nm 3) (.rng2 (.con (.int 1)) (.bin .Add (.slot 1) (.con (.int 1)))) B_least_rows_1,
  .ret (.slot 2)]
def F_least_rows : FSem := evFn [] 2 8 il_least_rows
def N_below : List Str := ["sums", "days", "rows", "left", "row"]
def B_below_1 : List IS := [
    .app 4 (.ix (.ix (.slot 2) (.slot 3)) (.con (.int 1))),
    .asg (.nm 3) (.bin .Sub (.slot 3) (.ix (.ix (.slot 0) (.ix (.slot 4) (.neg (.con (.int 1))))) (.con (.int 0))))]
def il_below : List IS := [
  .ex (.call 2 [(.slot 0)]),
  .ex (.call 1 [(.slot 1), (.con (.int 0))]),
  .par [2, 3, 4] [(.call 0 [(.slot 0), (.slot 1)]), (.slot 1), (.new (.lst []))],
  .whl 1000 (.cmp .Gt (.slot 3) (.con (.int 0))) B_below_1,
  .ret (.tup [(.ix (.ix (.slot 2) (.slot 1)) (.con (.int 0))), (.bi .tuple [(.frz (.bi .sorted (.slot 4)))])])]
def F_below : FSem := evFn [F_least_rows, F_check_days, F_check_sums] 2 5 il_below
def N_shows_below : List Str := ["sums", "days", "value", "number", "row", "at", "one", "other"]
def C_shows_below_1 : IF := (.comp [5] (.nm 5) (.seq (.slot 4)) none (.ix (.ix (.slot 0) (.slot 5)) (.con (.int 1))))
def C_shows_below_2 : IF := (.comp [5] (.nm 5) (.seq (.slot 4)) none (.ix (.ix (.slot 0) (.slot 5)) (.con (.int 0))))
def C_shows_below_3 : IF := (.comp [6, 7] (.tp [(.nm 6), (.nm 7)]) (.zip (.slot 4) (.sl (.slot 4) (some (.con (.int 1))) none)) none (.cmp .LtE (.slot 6) (.slot 7)))
def C_shows_below_4 : IF := (.comp [5] (.nm 5) (.seq (.slot 4)) none (.call 0 [(.slot 5), (.con (.int 0)), (.bin .Sub (.bi .len [(.slot 0)]) (.con (.int 1)))]))
def il_shows_below : List IS := [
  .ex (.call 4 [(.slot 0)]),
  .ex (.call 3 [(.slot 1), (.con (.int 0))]),
  .ite (.or (.not (.bi .isi [(.slot 2), (.glo "tuple" (.ty .tup))])) (.or (.cmp .NotEq (.bi .len [(.slot 2)]) (.con (.int 2))) (.or (.not (.call 2 [(.ix (.slot 2) (.con (.int 0)))])) (.not (.bi .isi [(.ix (.slot 2) (.con (.int 1))), (.glo "tuple" (.ty .tup))]))))) [
    .ret (.con (.bl false))] [],
  .asg (.tp [(.nm 3), (.nm 4)]) (.slot 2),
  .ite (.or (.cmp .NotEq (.slot 3) (.ix (.ix (.call 1 [(.slot 0), (.slot 1)]) (.slot 1)) (.con (.int 0)))) (.not (.bi .all [(.frz C_shows_below_4)]))) [
    .ret (.con (.bl false))] [],
  .ite (.cmp .Eq (.slot 1) (.con (.int 0))) [
    .ret (.cmp .Eq (.slot 4) (.tup []))] [],
  .ite (.or (.not (.bi .all [(.frz C_shows_below_3)])) (.cmp .Lt (.bi .sum [(.frz C_shows_below_2)]) (.slot 1))) [
    .ret (.con (.bl false))] [],
  .ret (.cmp .Eq (.bi .sum [(.frz C_shows_below_1)]) (.slot 3))]
def F_shows_below : FSem := evFn [F_is_between, F_least_rows, F_is_integer, F_check_days, F_check_sums] 3 8 il_shows_below
def N_law_pot : List Str := ["script", "place", "cell", "own", "small"]
def il_law_pot : List IS := [
  .asg (.nm 2) (.ifx (.cmp .Lt (.slot 1) (.bi .len [(.slot 0)])) (.ix (.slot 0) (.slot 1)) (.bin .Add (.bin .Add (.bin .Mod (.bi .sum [(.sl (.slot 0) none (some (.con (.int 1))))]) (.con (.int 1000003))) (.bin .Mult (.con (.int 8415)) (.slot 1))) (.con (.int 5025)))),
  .asg (.nm 3) (.bin .Mult (.bin .Mod (.bi .int [(.bi .abs [(.slot 2)])]) (.bin .Pow (.bin .Pow (.con (.int 10)) (.con (.int 60))) (.con (.int 5)))) (.bi .int [(.cmp .GtE (.bi .abs [(.slot 2)]) (.bin .Pow (.con (.int 10)) (.con (.int 18))))])),
  .asg (.nm 4) (.bin .Mod (.bi .int [(.slot 2)]) (.con (.int 2305843009213693951))),
  .ret (.new (.lst [(.slot 3), (.bin .Mod (.bi .int [(.bin .Add (.bin .Add (.bin .Mult (.slot 4) (.con (.int 66681))) (.bin .Mult (.bin .Mult (.con (.int 5333)) (.slot 1)) (.slot 1))) (.con (.int 981)))]) (.con (.int 2305843009213693921))), (.con (.int 0))]))]
def F_law_pot : FSem := evFn [] 2 5 il_law_pot
def N_law_take : List Str := ["pot", "upto", "prime", "blend", "digit"]
def il_law_take : List IS := [
  .ite (.cmp .Gt (.ix (.slot 0) (.con (.int 0))) (.con (.int 0))) [
    .asg (.nm 4) (.bin .Mod (.bi .int [(.ix (.slot 0) (.con (.int 0)))]) (.slot 1)),
    .sti 0 (.con (.int 0)) (.bin .FloorDiv (.ix (.slot 0) (.con (.int 0))) (.slot 1)),
    .ret (.slot 4)] [],
  .sti 0 (.con (.int 2)) (.bin .Add (.ix (.slot 0) (.con (.int 2))) (.con (.int 1))),
  .asg (.nm 2) (.ix (.frz (.lst [(.con (.int 2147483647)), (.con (.int 2147483629)), (.con (.int 2147483587)), (.con (.int 2147483579)), (.con (.int 2147483563))])) (.bin .Mod (.bi .int [(.ix (.slot 0) (.con (.int 2)))]) (.con (.int 5)))),
  .asg (.nm 3) (.bin .Mod (.bi .int [(.bin .Pow (.bi .int [(.bin .Add (.bin .Add (.ix (.slot 0) (.con (.int 1))) (.bin .Mult (.bin .Mult (.con (.int 98426)) (.ix (.slot 0) (.con (.int 2)))) (.ix (.slot 0) (.con (.int 2))))) (.con (.int 981)))]) (.con (.int 3)))]) (.slot 2)),
  .asg (.nm 3) (.bin .Mod (.bi .int [(.bin .Mult (.slot 3) (.bin .Add (.bin .Mod (.bi .int [(.slot 3)]) (.con (.int 14026))) (.bin .Mult (.con (.int 106)) (.ix (.slot 0) (.con (.int 2))))))]) (.con (.int 2305843009213693907))),
  .ret (.bin .Mod (.bi .int [(.bin .FloorDiv (.slot 3) (.con (.int 128)))]) (.slot 1))]
def F_law_take : FSem := evFn [] 2 5 il_law_take
def N_law_of : List Str := ["pot", "some"]
def il_law_of : List IS := [
  .ret (.ix (.slot 1) (.call 0 [(.slot 0), (.bi .len [(.slot 1)])]))]
def F_law_of : FSem := evFn [F_law_take] 2 2 il_law_of
def N_law_cells : List Str := ["script", "limit"]
def il_law_cells : List IS := [
  .ret (.frz (.rng (.con (.int 0)) (.bi .max [(.con (.int 1)), (.bi .min [(.slot 1), (.bi .len [(.slot 0)])])])))]
def F_law_cells : FSem := evFn [] 2 2 il_law_cells
def N_law_sums : List Str := ["pot", "wide", "lap", "days", "found"]
def B_law_sums_1 : List IS := [
    .asg (.nm 3) (.bin .Add (.bin .Add (.slot 3) (.con (.int 1))) (.call 0 [(.slot 0), (.slot 1)])),
    .app 4 (.tup [(.bi .int [(.slot 3)]), (.bi .int [(.call 1 [(.slot 0), (.frz (.lst [(.con (.int 0)), (.call 0 [(.slot 0), (.con (.int 9))]), (.call 0 [(.slot 0), (.con (.int 60))])]))])])])]
def il_law_sums : List IS := [
  .par [3, 4] [(.con (.int 0)), (.new (.lst []))],
  .for (.nm 2) (.rng1 (.bin .Add (.con (.int 1)) (.call 0 [(.slot 0), (.con (.int 6))]))) B_law_sums_1,
  .ret (.bi .tuple [(.slot 4)])]
def F_law_sums : FSem := evFn [F_law_take, F_law_of] 2 5 il_law_sums
def N_law_is_int : List Str := ["value", "least", "most"]
def il_law_is_int : List IS := [
  .ret (.and (.bi .isi [(.slot 0), (.glo "int" (.ty .int))]) (.and (.not (.bi .isi [(.slot 0), (.glo "bool" (.ty .bool))])) (.chn .LtE .LtE (.slot 1) (.slot 0) (.slot 2))))]
def F_law_is_int : FSem := evFn [] 3 3 il_law_is_int
def N_law_scale : List Str := ["pot", "wide", "lap", "way", "free", "most", "steps", "day", "at", "own", "each"]
def il_law_scale : List IS := [
  .par [6, 7] [(.new (.lst [])), (.con (.int 1))],
  .for (.nm 2) (.rng1 (.bin .Add (.con (.int 1)) (.call 1 [(.slot 0), (.con (.int 4))]))) [
    .app 6 (.tup [(.bi .int [(.slot 7)]), (.bi .int [(.call 0 [(.slot 0), (.frz (.lst [(.con (.int 0)), (.call 1 [(.slot 0), (.con (.int 5))]), (.call 1 [(.slot 0), (.con (.int 30))])]))])])]),
    .asg (.nm 7) (.bin .Add (.bin .Add (.slot 7) (.con (.int 1))) (.call 1 [(.slot 0), (.slot 1)]))],
  .asg (.nm 3) (.call 1 [(.slot 0), (.con (.int 5))]),
  .ite (.cmp .Eq (.slot 3) (.con (.int 0))) [
    .asg (.nm 6) (.new (.comp [8, 9, 10] (.tp [(.nm 8), (.tp [(.nm 9), (.nm 10)])]) (.enum (.slot 6)) none (.tup [(.slot 9), (.bi .int [(.bin .Sub (.con (.int 30)) (.slot 8))])])))] [],
  .ite (.cmp .Eq (.slot 3) (.con (.int 1))) [
    .asg (.nm 6) (.new (.sl (.slot 6) none (some (.con (.int 1)))))] [],
  .asg (.nm 4) (.call 0 [(.slot 0), (.frz (.lst [(.con (.int 0)), (.con (.int 0)), (.con (.int 0)), (.con (.int 1)), (.call 1 [(.slot 0), (.con (.int 5))])]))]),
  .asg (.nm 5) (.call 0 [(.slot 0), (.frz (.lst [(.con .non), (.con .non), (.bi .int [(.call 1 [(.slot 0), (.con (.int 99))])]), (.bi .int [(.call 1 [(.slot 0), (.con (.int 9))])])]))]),
  .ret (.tup [(.bi .int [(.slot 4)]), (.bi .tuple [(.slot 6)]), (.slot 5)])]
def F_law_scale : FSem := evFn [F_law_of, F_law_take] 2 11 il_law_scale
def N_law_bent : List Str := ["pot", "value", "way", "at"]
def il_law_bent : List IS := [
  .ite (.and (.bi .isi [(.slot 1), (.glo "tuple" (.ty .tup))]) (.and (.cmp .NotEq (.slot 1) (.tup [])) (.cmp .Gt (.call 1 [(.slot 0), (.con (.int 5))]) (.con (.int 0))))) [
    .par [2, 3] [(.call 1 [(.slot 0), (.con (.int 8))]), (.call 1 [(.slot 0), (.bi .len [(.slot 1)])])],
    .ite (.cmp .Lt (.slot 2) (.con (.int 4))) [
      .ret (.bin .Add (.bin .Add (.sl (.slot 1) none (some (.slot 3))) (.tup [(.call 2 [(.slot 0), (.ix (.slot 1) (.slot 3))])])) (.sl (.slot 1) (some (.bin .Add (.slot 3) (.con (.int 1)))) none))] [],
    .ret (.ix (.frz (.lst [(.bin .Add (.sl (.slot 1) none (some (.slot 3))) (.sl (.slot 1) (some (.bin .Add (.slot 3) (.con (.int 1)))) none)), (.bin .Add (.sl (.slot 1) none (some (.bin .Add (.slot 3) (.con (.int 1))))) (.sl (.slot 1) (some (.slot 3)) none)), (.rev (.slot 1)), (.frz (.bi .list (.slot 1)))])) (.bin .Sub (.slot 2) (.con (.int 4))))] [],
  .ite (.and (.bi .isi [(.slot 1), (.glo "int" (.ty .int))]) (.not (.bi .isi [(.slot 1), (.glo "bool" (.ty .bool))]))) [
    .ret (.call 0 [(.slot 0), (.frz (.lst [(.bin .Add (.slot 1) (.con (.int 1))), (.bin .Sub (.slot 1) (.con (.int 1))), (.bin .Sub (.con (.int 0)) (.slot 1)), (.cmp .Eq (.slot 1) (.con (.int 1))), (.con .non), (.bi .str [(.slot 1)]), (.tup [(.slot 1)]), (.con (.int 99)), (.con (.int 100))]))])] [],
  .ret (.call 0 [(.slot 0), (.frz (.lst [(.con (.int 0)), (.con (.int 1)), (.con (.int 2)), (.con (.int 3)), (.con (.str "a")), (.con (.str "b")), (.con (.str "c")), (.con (.str "")), (.con .non), (.tup []), (.frz (.lst [])), (.con (.int 0)), (.frz .dnew)]))])]
def F_law_bent : Nat → FSem
  | 0 => fun _ _ => .bad
  | n + 1 => evFn [F_law_of, F_law_take, F_law_bent n] 2 4 il_law_bent
def N_law_least : List Str := ["sums", "days", "found", "many", "own", "its"]
def C_law_least_1 : IF := (.comp [4, 5] (.tp [(.nm 4), (.nm 5)]) (.seq (.slot 0)) none (.bin .Add (.slot 5) (.ix (.slot 2) (.bi .max [(.con (.int 0)), (.bin .Sub (.slot 3) (.slot 4))]))))
def B_law_least_1 : List IS := [
    .app 2 (.bi .min [(.frz C_law_least_1)])]
def il_law_least : List IS := [
  .asg (.nm 2) (.new (.lst [(.con (.int 0))])),
  .for (.nm 3) (.rng2 (.con (.int 1)) (.bin .Add (.slot 1) (.con (.int 1)))) B_law_least_1,
  .ret (.slot 2)]
def F_law_least : FSem := evFn [] 2 6 il_law_least
def N_law_is_told : List Str := ["sums", "days", "number", "value", "row", "at"]
def C_law_is_told_1 : IF := (.comp [5] (.nm 5) (.seq (.slot 4)) none (.ix (.ix (.slot 0) (.slot 5)) (.con (.int 1))))
def C_law_is_told_2 : IF := (.comp [5] (.nm 5) (.seq (.slot 4)) none (.ix (.ix (.slot 0) (.slot 5)) (.con (.int 0))))
def C_law_is_told_3 : IF := (.comp [5] (.nm 5) (.seq (.slot 4)) none (.call 0 [(.slot 5), (.con (.int 0)), (.bin .Sub (.bi .len [(.slot 0)]) (.con (.int 1)))]))
def il_law_is_told : List IS := [
  .ite (.or (.not (.bi .isi [(.slot 3), (.glo "tuple" (.ty .tup))])) (.or (.cmp .NotEq (.bi .len [(.slot 3)]) (.con (.int 2))) (.cmp .NotEq (.bi .repr [(.ix (.slot 3) (.con (.int 0)))]) (.bi .repr [(.slot 2)])))) [
    .ret (.con (.bl false))] [],
  .asg (.nm 4) (.ix (.slot 3) (.con (.int 1))),
  .ite (.or (.not (.bi .isi [(.slot 4), (.glo "tuple" (.ty .tup))])) (.not (.bi .all [(.frz C_law_is_told_3)]))) [
    .ret (.con (.bl false))] [],
  .ite (.cmp .Eq (.slot 1) (.con (.int 0))) [
    .ret (.cmp .Eq (.slot 4) (.tup []))] [],
  .ite (.or (.cmp .NotEq (.frz (.bi .list (.slot 4))) (.frz (.bi .sorted (.slot 4)))) (.cmp .Lt (.bi .sum [(.frz C_law_is_told_2)]) (.slot 1))) [
    .ret (.con (.bl false))] [],
  .ret (.cmp .Eq (.bi .sum [(.frz C_law_is_told_1)]) (.slot 2))]
def F_law_is_told : FSem := evFn [F_law_is_int] 4 6 il_law_is_told
def N_law_right : List Str := ["pot", "sums", "least", "lap", "every", "told", "values", "turn", "value", "scale", "many", "days", "other", "row", "due", "own", "its", "part"]
def C_law_right_1 : IF := (.comp [11] (.nm 11) (.rng2 (.con (.int 1)) (.bin .Add (.slot 10) (.con (.int 1)))) none (.tup [(.slot 11), (.call 2 [(.slot 9), (.slot 11)])]))
def C_law_right_2 : IF := (.comp [15, 16] (.tp [(.nm 15), (.nm 16)]) (.seq (.slot 1)) none (.cmp .LtE (.ix (.call 0 [(.slot 1), (.slot 15)]) (.con (.int 0))) (.slot 16)))
def B_law_right_1 : List IS := [
      .asg (.nm 14) (.call 6 [(.slot 1), (.slot 11), (.ix (.slot 2) (.slot 11)), (.slot 8)]),
      .ite (.cmp .NotEq (.bi .repr [(.call 5 [(.slot 1), (.slot 11), (.slot 8)])]) (.bi .repr [(.slot 14)])) [
        .ret (.con (.bl false))] []]
def C_law_right_3 : IF := (.comp [17] (.nm 17) (.rng1 (.bin .Add (.con (.int 1)) (.call 3 [(.slot 0), (.con (.int 4))]))) none (.bi .int [(.call 3 [(.slot 0), (.bi .len [(.slot 1)])])]))
def B_law_right_2 : List IS := [
      .asg (.nm 13) (.bi .tuple [(.frz (.bi .sorted (.frz C_law_right_3)))]),
      .ext 6 (.frz (.lst [(.tup [(.ix (.slot 5) (.con (.int 0))), (.slot 13)]), (.call 7 [(.slot 0), (.slot 5)])]))]
def B_law_right_3 : List IS := [
    .par [11, 12] [(.bi .int [(.call 3 [(.slot 0), (.con (.int 25))])]), (.bi .int [(.call 3 [(.slot 0), (.con (.int 25))])])],
    .asg (.nm 5) (.call 0 [(.slot 1), (.slot 11)]),
    .ite (.not (.call 6 [(.slot 1), (.slot 11), (.ix (.slot 2) (.slot 11)), (.slot 5)])) [
      .ret (.con (.bl false))] [],
    .ite (.or (.cmp .Lt (.ix (.call 0 [(.slot 1), (.bin .Add (.slot 11) (.con (.int 1)))]) (.con (.int 0))) (.ix (.slot 5) (.con (.int 0)))) (.cmp .Gt (.ix (.call 0 [(.slot 1), (.bin .Add (.slot 11) (.slot 12))]) (.con (.int 0))) (.bin .Add (.ix (.slot 5) (.con (.int 0))) (.ix (.call 0 [(.slot 1), (.slot 12)]) (.con (.int 0)))))) [
      .ret (.con (.bl false))] [],
    .asg (.nm 6) (.new (.lst [(.slot 5), (.rev (.slot 5)), (.frz (.bi .list (.slot 5))), (.tup [(.bin .Add (.ix (.slot 5) (.con (.int 0))) (.con (.int 1))), (.ix (.slot 5) (.con (.int 1)))]), (.tup [(.ix (.slot 5) (.con (.int 0))), (.rev (.ix (.slot 5) (.con (.int 1))))]), (.con .non)])),
    .app 6 (.tup [(.ix (.slot 5) (.con (.int 0))), (.sl (.ix (.slot 5) (.con (.int 1))) (some (.con (.int 1))) none)]),
    .for (.nm 7) (.rng1 (.con (.int 8))) B_law_right_2,
    .for (.nm 8) (.seq (.slot 6)) B_law_right_1]
def il_law_right : List IS := [
  .asg (.nm 1) (.call 9 [(.slot 0), (.call 10 [(.slot 0), (.frz (.lst [(.con (.int 1)), (.con (.int 3)), (.con (.int 9))]))])]),
  .asg (.nm 2) (.call 8 [(.slot 1), (.con (.int 48))]),
  .for (.nm 3) (.rng1 (.con (.int 5))) B_law_right_3,
  .ite (.not (.bi .all [(.frz C_law_right_2)])) [
    .ret (.con (.bl false))] [],
  .asg (.tp [(.nm 9), (.nm 10)]) (.tup [(.call 4 [(.slot 0), (.con (.int 3))]), (.bi .int [(.bin .Add (.con (.int 1)) (.call 3 [(.slot 0), (.con (.int 30))]))])]),
  .asg (.nm 4) (.bi .tuple [(.frz C_law_right_1)]),
  .ret (.cmp .Eq (.ix (.call 0 [(.slot 4), (.slot 10)]) (.con (.int 0))) (.ix (.call 1 [(.slot 9), (.slot 10)]) (.con (.int 0))))]
def F_law_right : FSem := evFn [F_below, F_least_cut, F_fine, F_law_take, F_law_scale, F_shows_below, F_law_is_told, (F_law_bent 4), F_law_least, F_law_sums, F_law_of] 1 18 il_law_right
def N_law : List Str := ["script", "place", "pot", "lap"]
def il_law : List IS := [
  .for (.nm 1) (.seq (.call 0 [(.slot 0), (.con (.int 2))])) [
    .asg (.nm 2) (.call 2 [(.slot 0), (.slot 1)]),
    .ite (.not (.bi .all [(.frz (.comp [3] (.nm 3) (.rng1 (.con (.int 4))) none (.call 1 [(.slot 2)])))])) [
      .ret (.con (.bl false))] []],
  .ret (.con (.bl true))]
def F_law : FSem := evFn [F_law_cells, F_law_right, F_law_pot] 1 4 il_law
/-! ### the text -/
def topS (i : Nat) : Stmt := PySem.Challenge.pw_booksdue_k38_whole_the_greatest_rule_bel.main.body.getD i (.Pass ⟨0, 0, 0, 0⟩)
structure Gl (K : PySem.W.Frag) (mg : Str → Option Value) : Prop where
  z_abs : mg "abs" = none
  z_all : mg "all" = none
  z_dict : mg "dict" = none
  z_enumerate : mg "enumerate" = none
  z_int : mg "int" = none
  z_isinstance : mg "isinstance" = none
  z_len : mg "len" = none
  z_list : mg "list" = none
  z_max : mg "max" = none
  z_min : mg "min" = none
  z_range : mg "range" = none
  z_repr : mg "repr" = none
  z_sorted : mg "sorted" = none
  z_str : mg "str" = none
  z_sum : mg "sum" = none
  z_tuple : mg "tuple" = none
  z_zip : mg "zip" = none
  g_bool : ∀ (P : Program) (w : World) (base : Heap) (k : Nat), GloV ⟨P, w, K, mg, base, k⟩ "bool" (.ty .bool)
  g_int : ∀ (P : Program) (w : World) (base : Heap) (k : Nat), GloV ⟨P, w, K, mg, base, k⟩ "int" (.ty .int)
  g_MOST_EACH : ∀ (P : Program) (w : World) (base : Heap) (k : Nat), GloV ⟨P, w, K, mg, base, k⟩ "MOST_EACH" (.int 999)
  g_MOST_DAYS : ∀ (P : Program) (w : World) (base : Heap) (k : Nat), GloV ⟨P, w, K, mg, base, k⟩ "MOST_DAYS" (.int 400)
  g_tuple : ∀ (P : Program) (w : World) (base : Heap) (k : Nat), GloV ⟨P, w, K, mg, base, k⟩ "tuple" (.ty .tup)
  g_MOST_STEPS : ∀ (P : Program) (w : World) (base : Heap) (k : Nat), GloV ⟨P, w, K, mg, base, k⟩ "MOST_STEPS" (.int 8)
  g_MOST_SUM : ∀ (P : Program) (w : World) (base : Heap) (k : Nat), GloV ⟨P, w, K, mg, base, k⟩ "MOST_SUM" (.int 99999)
  g_MOST_FREE : ∀ (P : Program) (w : World) (base : Heap) (k : Nat), GloV ⟨P, w, K, mg, base, k⟩ "MOST_FREE" (.int 99)
  g_PARTS : ∀ (P : Program) (w : World) (base : Heap) (k : Nat), GloV ⟨P, w, K, mg, base, k⟩ "PARTS" (.int 3)
  g_MOST_SUMS : ∀ (P : Program) (w : World) (base : Heap) (k : Nat), GloV ⟨P, w, K, mg, base, k⟩ "MOST_SUMS" (.int 30)
def sh_is_integer : List (Nat × List Str) := [(1, [])]
def sh_is_between : List (Nat × List Str) := [(3, [])]
def sh_are_steps : List (Nat × List Str) := [(1, [])]
def sh_is_scale : List (Nat × List Str) := [(1, [])]
def sh_check_scale : List (Nat × List Str) := [(1, [])]
def sh_check_days : List (Nat × List Str) := [(2, [])]
def sh_costs_by : List (Nat × List Str) := [(1, [])]
def sh_fine : List (Nat × List Str) := [(2, [])]
def sh_best_cuts : List (Nat × List Str) := [(3, [])]
def sh_told_cut : List (Nat × List Str) := [(3, [])]
def sh_least_cut : List (Nat × List Str) := [(2, [])]
def sh_are_sums : List (Nat × List Str) := [(1, [])]
def sh_check_sums : List (Nat × List Str) := [(1, [])]
def sh_least_rows : List (Nat × List Str) := [(2, [])]
def sh_below : List (Nat × List Str) := [(2, []), (0, ["sums", "days"])]
def sh_shows_below : List (Nat × List Str) := [(0, ["sums", "days", "value"])]
def sh_law_pot : List (Nat × List Str) := [(2, [])]
def sh_law_take : List (Nat × List Str) := [(2, [])]
def sh_law_of : List (Nat × List Str) := [(2, [])]
def sh_law_cells : List (Nat × List Str) := [(2, [])]
def sh_law_sums : List (Nat × List Str) := [(2, [])]
def sh_law_is_int : List (Nat × List Str) := [(3, [])]
def sh_law_scale : List (Nat × List Str) := [(2, [])]
def sh_law_bent : List (Nat × List Str) := [(2, [])]
def sh_law_least : List (Nat × List Str) := [(2, [])]
def sh_law_is_told : List (Nat × List Str) := [(4, [])]
def sh_law_right : List (Nat × List Str) := [(1, [])]
def sh_law : List (Nat × List Str) := []
abbrev st_is_integer : Stmt := topS 6
abbrev st_is_between : Stmt := topS 7
abbrev st_are_steps : Stmt := topS 15
abbrev st_is_scale : Stmt := topS 16
abbrev st_check_scale : Stmt := topS 17
abbrev st_check_days : Stmt := topS 18
abbrev st_costs_by : Stmt := topS 19
abbrev st_fine : Stmt := topS 20
abbrev st_best_cuts : Stmt := topS 21
abbrev st_told_cut : Stmt := topS 22
abbrev st_least_cut : Stmt := topS 23
abbrev st_are_sums : Stmt := topS 26
abbrev st_check_sums : Stmt := topS 27
abbrev st_least_rows : Stmt := topS 28
abbrev st_below : Stmt := topS 29
abbrev st_shows_below : Stmt := topS 30
abbrev st_law_pot : Stmt := topS 32
abbrev st_law_take : Stmt := topS 33
abbrev st_law_of : Stmt := topS 34
abbrev st_law_cells : Stmt := topS 35
abbrev st_law_sums : Stmt := topS 36
abbrev st_law_is_int : Stmt := topS 37
abbrev st_law_scale : Stmt := topS 38
abbrev st_law_bent : Stmt := topS 39
abbrev st_law_least : Stmt := topS 40
abbrev st_law_is_told : Stmt := topS 41
abbrev st_law_right : Stmt := topS 42
abbrev st_law : Stmt := topS 43
theorem sd_is_integer {L : Lw} (g : Gl L.K L.mg) (W : XK) : SndSs L N_is_integer (defScope st_is_integer) (fun _ => true) W (defBody st_is_integer) (exs [] il_is_integer) :=
  (snss_cons (sns_ret (snd_and (snd_bi (b := .isi) (sna_cons (snd_slot (by decide +kernel) _) (sna_cons (snd_glo (by decide +kernel) (g.g_int _ _ _ _) _) sna_nil rfl) rfl) (by decide +kernel) g.z_isinstance rfl) (snd_one (snd_not (snd_bi (b := .isi) (sna_cons (snd_slot (by decide +kernel) _) (sna_cons (snd_glo (by decide +kernel) (g.g_bool _ _ _ _) _) sna_nil rfl) rfl) (by decide +kernel) g.z_isinstance rfl)))))
  snss_nil)
theorem bk_is_integer {K : PySem.W.Frag} {f : Addr} {fd : FuncData} (Fn : L2.Fun K "is_integer" "is_integer" st_is_integer f fd) : ∀ p ∈ sh_is_integer, BindK fd ["value"] p.1 p.2 := by
  obtain ⟨oc, od, kV, doc, pm, an, cdv, ct, osl, rfl, lk, hcd⟩ := Fn.ex
  intro p hp
  unfold sh_is_integer at hp
  rcases List.mem_cons.mp hp with rfl | hp
  · intro us ws h1 h2
    match us, ws, h1, h2 with
    | [_], [], _, _ => rfl
  exact nomatch hp
theorem got_is_integer {P : Program} {w : World} {K : PySem.W.Frag} {mg : Str → Option Value} {base : Heap} (g : Gl K mg) {f : Addr} {fd : FuncData} (Fn : L2.Fun K "is_integer" "is_integer" st_is_integer f fd) (hm : mg "is_integer" = some (.ref f)) : Got P w K mg base "is_integer" F_is_integer 1 sh_is_integer :=
  got_of (N := N_is_integer) (ps := ["value"]) (k := 0) Fn hm (by decide +kernel) (fun W => sd_is_integer g  W) (bk_is_integer Fn)
theorem sd_is_between {L : Lw} (g : Gl L.K L.mg) (c_is_integer : Cal L "is_integer" F_is_integer sh_is_integer) (W : XK) : SndSs L N_is_between (defScope st_is_between) (fun _ => true) W (defBody st_is_between) (exs [F_is_integer] il_is_between) :=
  (snss_cons (sns_ret (snd_and (snd_call1 rfl c_is_integer (by decide +kernel) (sna_cons (snd_slot (by decide +kernel) _) sna_nil rfl) rfl (by decide +kernel) rfl) (snd_one (snd_chn (snd_slot (by decide +kernel) _) (snd_slot (by decide +kernel) _) (snd_slot (by decide +kernel) _) rfl))))
  snss_nil)
theorem bk_is_between {K : PySem.W.Frag} {f : Addr} {fd : FuncData} (Fn : L2.Fun K "is_between" "is_between" st_is_between f fd) : ∀ p ∈ sh_is_between, BindK fd ["value", "least", "most"] p.1 p.2 := by
  obtain ⟨oc, od, kV, doc, pm, an, cdv, ct, osl, rfl, lk, hcd⟩ := Fn.ex
  intro p hp
  unfold sh_is_between at hp
  rcases List.mem_cons.mp hp with rfl | hp
  · intro us ws h1 h2
    match us, ws, h1, h2 with
    | [_, _, _], [], _, _ => rfl
  exact nomatch hp
theorem got_is_between {P : Program} {w : World} {K : PySem.W.Frag} {mg : Str → Option Value} {base : Heap} (g : Gl K mg) {f : Addr} {fd : FuncData} (Fn : L2.Fun K "is_between" "is_between" st_is_between f fd) (hm : mg "is_between" = some (.ref f)) (c_is_integer : Got P w K mg base "is_integer" F_is_integer 1 sh_is_integer) : Got P w K mg base "is_between" F_is_between 2 sh_is_between :=
  got_of (N := N_is_between) (ps := ["value", "least", "most"]) (k := 1) Fn hm (by decide +kernel) (fun W => sd_is_between g (Got.cal c_is_integer (by omega)) W) (bk_is_between Fn)
theorem sd_are_steps {L : Lw} (g : Gl L.K L.mg) (c_is_between : Cal L "is_between" F_is_between sh_is_between) (W : XK) : SndSs L N_are_steps (defScope st_are_steps) (fun _ => true) W (defBody st_are_steps) (exs [F_is_between] il_are_steps) :=
  (snss_cons (sns_if (SndW.pt (snw_or (snt_not (snt_plain (snd_bi (b := .isi) (sna_cons (snd_slot (by decide +kernel) _) (sna_cons (snd_glo (by decide +kernel) (g.g_tuple _ _ _ _) _) sna_nil rfl) rfl) (by decide +kernel) g.z_isinstance rfl) fun _ _ => rfl)) (snw_or1 (snt_not (snt_chn (snd_con (by decide +kernel) _) (snd_bi (b := .len) (sna_cons (snd_slot (by decide +kernel) _) sna_nil rfl) (by decide +kernel) g.z_len rfl) (snd_glo (by decide +kernel) (g.g_MOST_STEPS _ _ _ _) _) rfl))))) (snss_cons (sns_ret (snd_con (by decide +kernel) _))
    snss_nil) snss_nil)
  (snss_cons (sns_for (sni_seq (snd_slot (by decide +kernel) _)) (sng_nm (by decide +kernel)) (snss_cons (sns_if (SndW.pt (snw_or (snt_not (snt_plain (snd_bi (b := .isi) (sna_cons (snd_slot (by decide +kernel) _) (sna_cons (snd_glo (by decide +kernel) (g.g_tuple _ _ _ _) _) sna_nil rfl) rfl) (by decide +kernel) g.z_isinstance rfl) fun _ _ => rfl)) (snw_or (snt_cmp (snd_bi (b := .len) (sna_cons (snd_slot (by decide +kernel) _) sna_nil rfl) (by decide +kernel) g.z_len rfl) (snd_con (by decide +kernel) _) rfl) (snw_or1 (snt_not (snt_plain (snd_call1 rfl c_is_between (by decide +kernel) (sna_cons (snd_ix (snd_slot (by decide +kernel) _) (snd_con (by decide +kernel) _) rfl) (sna_cons (snd_con (by decide +kernel) _) (sna_cons (snd_glo (by decide +kernel) (g.g_MOST_DAYS _ _ _ _) _) sna_nil rfl) rfl) rfl) rfl (by decide +kernel) rfl) fun _ _ => rfl)))))) (snss_cons (sns_ret (snd_con (by decide +kernel) _))
      snss_nil) snss_nil)
    (snss_cons (sns_if (snt_not (snt_plain (snd_call1 rfl c_is_between (by decide +kernel) (sna_cons (snd_ix (snd_slot (by decide +kernel) _) (snd_con (by decide +kernel) _) rfl) (sna_cons (snd_con (by decide +kernel) _) (sna_cons (snd_glo (by decide +kernel) (g.g_MOST_EACH _ _ _ _) _) sna_nil rfl) rfl) rfl) rfl (by decide +kernel) rfl) fun _ _ => rfl)) (snss_cons (sns_ret (snd_con (by decide +kernel) _))
      snss_nil) snss_nil)
    snss_nil)) fun _ _ => rfl)
  (snss_cons (sns_ret (snd_and (snd_cmp (snd_ix (snd_ix (snd_slot (by decide +kernel) _) (snd_con (by decide +kernel) _) rfl) (snd_con (by decide +kernel) _) rfl) (snd_con (by decide +kernel) _) rfl) (snd_one (snd_bi (b := .all) (sna_cons (snd_frz (snf_comp (own := [("one", 2), ("other", 3)]) ⟨(sni_zip (snd_slot (by decide +kernel) _) (snd_sl (snd_slot (by decide +kernel) _) (snp_some (snd_con (by decide +kernel) _)) snp_none) (by decide +kernel) g.z_zip rfl rfl), (sng_tp (sngs_cons (sng_nm (by decide +kernel)) (sngs_cons (sng_nm (by decide +kernel)) sngs_nil rfl) rfl) rfl rfl), snc_none, (snd_cmp (snd_ix (snd_slot (by decide +kernel) _) (snd_con (by decide +kernel) _) rfl) (snd_ix (snd_slot (by decide +kernel) _) (snd_con (by decide +kernel) _) rfl) rfl), (by decide +kernel), by decide, fun _ _ => rfl⟩)) sna_nil rfl) (by decide +kernel) g.z_all rfl))))
  snss_nil)))
theorem bk_are_steps {K : PySem.W.Frag} {f : Addr} {fd : FuncData} (Fn : L2.Fun K "are_steps" "are_steps" st_are_steps f fd) : ∀ p ∈ sh_are_steps, BindK fd ["value"] p.1 p.2 := by
  obtain ⟨oc, od, kV, doc, pm, an, cdv, ct, osl, rfl, lk, hcd⟩ := Fn.ex
  intro p hp
  unfold sh_are_steps at hp
  rcases List.mem_cons.mp hp with rfl | hp
  · intro us ws h1 h2
    match us, ws, h1, h2 with
    | [_], [], _, _ => rfl
  exact nomatch hp
theorem got_are_steps {P : Program} {w : World} {K : PySem.W.Frag} {mg : Str → Option Value} {base : Heap} (g : Gl K mg) {f : Addr} {fd : FuncData} (Fn : L2.Fun K "are_steps" "are_steps" st_are_steps f fd) (hm : mg "are_steps" = some (.ref f)) (c_is_between : Got P w K mg base "is_between" F_is_between 2 sh_is_between) : Got P w K mg base "are_steps" F_are_steps 3 sh_are_steps :=
  got_of (N := N_are_steps) (ps := ["value"]) (k := 2) Fn hm (by decide +kernel) (fun W => sd_are_steps g (Got.cal c_is_between (by omega)) W) (bk_are_steps Fn)
theorem sd_is_scale {L : Lw} (g : Gl L.K L.mg) (c_is_between : Cal L "is_between" F_is_between sh_is_between) (c_are_steps : Cal L "are_steps" F_are_steps sh_are_steps) (W : XK) : SndSs L N_is_scale (defScope st_is_scale) (fun _ => true) W (defBody st_is_scale) (exs [F_is_between, F_are_steps] il_is_scale) :=
  (snss_cons (sns_if (SndW.pt (snw_or (snt_not (snt_plain (snd_bi (b := .isi) (sna_cons (snd_slot (by decide +kernel) _) (sna_cons (snd_glo (by decide +kernel) (g.g_tuple _ _ _ _) _) sna_nil rfl) rfl) (by decide +kernel) g.z_isinstance rfl) fun _ _ => rfl)) (snw_or (snt_cmp (snd_bi (b := .len) (sna_cons (snd_slot (by decide +kernel) _) sna_nil rfl) (by decide +kernel) g.z_len rfl) (snd_glo (by decide +kernel) (g.g_PARTS _ _ _ _) _) rfl) (snw_or1 (snt_not (snt_plain (snd_call1 rfl c_is_between (by decide +kernel) (sna_cons (snd_ix (snd_slot (by decide +kernel) _) (snd_con (by decide +kernel) _) rfl) (sna_cons (snd_con (by decide +kernel) _) (sna_cons (snd_glo (by decide +kernel) (g.g_MOST_FREE _ _ _ _) _) sna_nil rfl) rfl) rfl) rfl (by decide +kernel) rfl) fun _ _ => rfl)))))) (snss_cons (sns_ret (snd_con (by decide +kernel) _))
    snss_nil) snss_nil)
  (snss_cons (sns_ret (snd_and (snd_call1 rfl c_are_steps (by decide +kernel) (sna_cons (snd_ix (snd_slot (by decide +kernel) _) (snd_con (by decide +kernel) _) rfl) sna_nil rfl) rfl (by decide +kernel) rfl) (snd_one (snd_or (snd_cmp (snd_ix (snd_slot (by decide +kernel) _) (snd_con (by decide +kernel) _) rfl) (snd_con (by decide +kernel) _) rfl) (snd_one (snd_call1 rfl c_is_between (by decide +kernel) (sna_cons (snd_ix (snd_slot (by decide +kernel) _) (snd_con (by decide +kernel) _) rfl) (sna_cons (snd_con (by decide +kernel) _) (sna_cons (snd_glo (by decide +kernel) (g.g_MOST_SUM _ _ _ _) _) sna_nil rfl) rfl) rfl) rfl (by decide +kernel) rfl))))))
  snss_nil))
theorem bk_is_scale {K : PySem.W.Frag} {f : Addr} {fd : FuncData} (Fn : L2.Fun K "is_scale" "is_scale" st_is_scale f fd) : ∀ p ∈ sh_is_scale, BindK fd ["value"] p.1 p.2 := by
  obtain ⟨oc, od, kV, doc, pm, an, cdv, ct, osl, rfl, lk, hcd⟩ := Fn.ex
  intro p hp
  unfold sh_is_scale at hp
  rcases List.mem_cons.mp hp with rfl | hp
  · intro us ws h1 h2
    match us, ws, h1, h2 with
    | [_], [], _, _ => rfl
  exact nomatch hp
theorem got_is_scale {P : Program} {w : World} {K : PySem.W.Frag} {mg : Str → Option Value} {base : Heap} (g : Gl K mg) {f : Addr} {fd : FuncData} (Fn : L2.Fun K "is_scale" "is_scale" st_is_scale f fd) (hm : mg "is_scale" = some (.ref f)) (c_is_between : Got P w K mg base "is_between" F_is_between 2 sh_is_between) (c_are_steps : Got P w K mg base "are_steps" F_are_steps 3 sh_are_steps) : Got P w K mg base "is_scale" F_is_scale 4 sh_is_scale :=
  got_of (N := N_is_scale) (ps := ["value"]) (k := 3) Fn hm (by decide +kernel) (fun W => sd_is_scale g (Got.cal c_is_between (by omega)) (Got.cal c_are_steps (by omega)) W) (bk_is_scale Fn)
theorem sd_check_scale {L : Lw} (g : Gl L.K L.mg) (c_is_scale : Cal L "is_scale" F_is_scale sh_is_scale) (W : XK) : SndSs L N_check_scale (defScope st_check_scale) (fun _ => true) W (defBody st_check_scale) (exs [F_is_scale] il_check_scale) :=
  (snss_cons (sns_if (snt_not (snt_plain (snd_call1 rfl c_is_scale (by decide +kernel) (sna_cons (snd_slot (by decide +kernel) _) sna_nil rfl) rfl (by decide +kernel) rfl) fun _ _ => rfl)) (snss_cons sns_never
    snss_nil) snss_nil)
  snss_nil)
theorem bk_check_scale {K : PySem.W.Frag} {f : Addr} {fd : FuncData} (Fn : L2.Fun K "check_scale" "check_scale" st_check_scale f fd) : ∀ p ∈ sh_check_scale, BindK fd ["scale"] p.1 p.2 := by
  obtain ⟨oc, od, kV, doc, pm, an, cdv, ct, osl, rfl, lk, hcd⟩ := Fn.ex
  intro p hp
  unfold sh_check_scale at hp
  rcases List.mem_cons.mp hp with rfl | hp
  · intro us ws h1 h2
    match us, ws, h1, h2 with
    | [_], [], _, _ => rfl
  exact nomatch hp
theorem got_check_scale {P : Program} {w : World} {K : PySem.W.Frag} {mg : Str → Option Value} {base : Heap} (g : Gl K mg) {f : Addr} {fd : FuncData} (Fn : L2.Fun K "check_scale" "check_scale" st_check_scale f fd) (hm : mg "check_scale" = some (.ref f)) (c_is_scale : Got P w K mg base "is_scale" F_is_scale 4 sh_is_scale) : Got P w K mg base "check_scale" F_check_scale 5 sh_check_scale :=
  got_of (N := N_check_scale) (ps := ["scale"]) (k := 4) Fn hm (by decide +kernel) (fun W => sd_check_scale g (Got.cal c_is_scale (by omega)) W) (bk_check_scale Fn)
theorem sd_check_days {L : Lw} (g : Gl L.K L.mg) (c_is_between : Cal L "is_between" F_is_between sh_is_between) (W : XK) : SndSs L N_check_days (defScope st_check_days) (fun _ => true) W (defBody st_check_days) (exs [F_is_between] il_check_days) :=
  (snss_cons (sns_if (snt_not (snt_plain (snd_call1 rfl c_is_between (by decide +kernel) (sna_cons (snd_slot (by decide +kernel) _) (sna_cons (snd_slot (by decide +kernel) _) (sna_cons (snd_glo (by decide +kernel) (g.g_MOST_DAYS _ _ _ _) _) sna_nil rfl) rfl) rfl) rfl (by decide +kernel) rfl) fun _ _ => rfl)) (snss_cons sns_never
    snss_nil) snss_nil)
  snss_nil)
theorem bk_check_days {K : PySem.W.Frag} {f : Addr} {fd : FuncData} (Fn : L2.Fun K "check_days" "check_days" st_check_days f fd) : ∀ p ∈ sh_check_days, BindK fd ["days", "least"] p.1 p.2 := by
  obtain ⟨oc, od, kV, doc, pm, an, cdv, ct, osl, rfl, lk, hcd⟩ := Fn.ex
  intro p hp
  unfold sh_check_days at hp
  rcases List.mem_cons.mp hp with rfl | hp
  · intro us ws h1 h2
    match us, ws, h1, h2 with
    | [_, _], [], _, _ => rfl
  exact nomatch hp
theorem got_check_days {P : Program} {w : World} {K : PySem.W.Frag} {mg : Str → Option Value} {base : Heap} (g : Gl K mg) {f : Addr} {fd : FuncData} (Fn : L2.Fun K "check_days" "check_days" st_check_days f fd) (hm : mg "check_days" = some (.ref f)) (c_is_between : Got P w K mg base "is_between" F_is_between 2 sh_is_between) : Got P w K mg base "check_days" F_check_days 3 sh_check_days :=
  got_of (N := N_check_days) (ps := ["days", "least"]) (k := 2) Fn hm (by decide +kernel) (fun W => sd_check_days g (Got.cal c_is_between (by omega)) W) (bk_check_days Fn)
theorem sd_costs_by {L : Lw} (g : Gl L.K L.mg) (W : XK) : SndSs L N_costs_by (defScope st_costs_by) (fun _ => true) W (defBody st_costs_by) (exs [] il_costs_by) :=
  (snss_cons (sns_tup (snd_slot (by decide +kernel) _) (sng_tp (sngs_cons (sng_nm (by decide +kernel)) (sngs_cons (sng_nm (by decide +kernel)) (sngs_cons (sng_nm (by decide +kernel)) sngs_nil rfl) rfl) rfl) rfl rfl) rfl (fun _ _ => sw_nt rfl))
  (snss_cons (sns_par3 (sna_cons (snd_new (snf_rep (snd_frz (snf_lst (sna_cons (snd_con (by decide +kernel) _) sna_nil rfl))) (snd_bin (snd_slot (by decide +kernel) _) (snd_con (by decide +kernel) _)))) (sna_cons (snd_con (by decide +kernel) _) (sna_cons (snd_frz (snf_bi (b := .dict) (snd_slot (by decide +kernel) _) (by decide +kernel) g.z_dict rfl)) sna_nil rfl) rfl) rfl) rfl (by decide +kernel) (by decide +kernel) (by decide +kernel) (by decide) (by decide) (by decide) rfl rfl (by decide +kernel) rfl rfl rfl rfl rfl)
  (snss_cons (sns_for (sni_rng2 (snd_con (by decide +kernel) _) (snd_bin (snd_bin (snd_glo (by decide +kernel) (g.g_MOST_DAYS _ _ _ _) _) (snd_slot (by decide +kernel) _)) (snd_con (by decide +kernel) _)) (by decide +kernel) g.z_range rfl rfl) (sng_nm (by decide +kernel)) (snss_cons (sns_set (snd_dg2 (snd_slot (by decide +kernel) _) (snd_slot (by decide +kernel) _) (snd_slot (by decide +kernel) _) rfl rfl rfl rfl) rfl (by decide +kernel))
    (snss_cons (sns_app (snd_bin (snd_ix (snd_slot (by decide +kernel) _) (snd_neg (snd_con (by decide +kernel) _)) rfl) (snd_slot (by decide +kernel) _)) (by decide +kernel) rfl rfl)
    snss_nil)) fun _ _ => rfl)
  (snss_cons (sns_ret (snd_frz (snf_comp (own := [("cost", 8)]) ⟨(sni_seq (snd_slot (by decide +kernel) _)), (sng_nm (by decide +kernel)), snc_none, (snd_ifx (snt_cmp (snd_slot (by decide +kernel) _) (snd_con (by decide +kernel) _) rfl) (snd_slot (by decide +kernel) _) (snd_bi (b := .min) (sna_cons (snd_slot (by decide +kernel) _) (sna_cons (snd_slot (by decide +kernel) _) sna_nil rfl) rfl) (by decide +kernel) g.z_min rfl)), (by decide +kernel), by decide, fun _ _ => rfl⟩)))
  snss_nil))))
theorem bk_costs_by {K : PySem.W.Frag} {f : Addr} {fd : FuncData} (Fn : L2.Fun K "costs_by" "costs_by" st_costs_by f fd) : ∀ p ∈ sh_costs_by, BindK fd ["scale"] p.1 p.2 := by
  obtain ⟨oc, od, kV, doc, pm, an, cdv, ct, osl, rfl, lk, hcd⟩ := Fn.ex
  intro p hp
  unfold sh_costs_by at hp
  rcases List.mem_cons.mp hp with rfl | hp
  · intro us ws h1 h2
    match us, ws, h1, h2 with
    | [_], [], _, _ => rfl
  exact nomatch hp
theorem got_costs_by {P : Program} {w : World} {K : PySem.W.Frag} {mg : Str → Option Value} {base : Heap} (g : Gl K mg) {f : Addr} {fd : FuncData} (Fn : L2.Fun K "costs_by" "costs_by" st_costs_by f fd) (hm : mg "costs_by" = some (.ref f)) : Got P w K mg base "costs_by" F_costs_by 1 sh_costs_by :=
  got_of (N := N_costs_by) (ps := ["scale"]) (k := 0) Fn hm (by decide +kernel) (fun W => sd_costs_by g  W) (bk_costs_by Fn)
theorem sd_fine {L : Lw} (g : Gl L.K L.mg) (c_costs_by : Cal L "costs_by" F_costs_by sh_costs_by) (c_check_days : Cal L "check_days" F_check_days sh_check_days) (c_check_scale : Cal L "check_scale" F_check_scale sh_check_scale) (W : XK) : SndSs L N_fine (defScope st_fine) (fun _ => true) W (defBody st_fine) (exs [F_costs_by, F_check_days, F_check_scale] il_fine) :=
  (snss_cons (sns_ex (snd_call1 rfl c_check_scale (by decide +kernel) (sna_cons (snd_slot (by decide +kernel) _) sna_nil rfl) rfl (by decide +kernel) rfl) rfl)
  (snss_cons (sns_ex (snd_call1 rfl c_check_days (by decide +kernel) (sna_cons (snd_slot (by decide +kernel) _) (sna_cons (snd_con (by decide +kernel) _) sna_nil rfl) rfl) rfl (by decide +kernel) rfl) rfl)
  (snss_cons (sns_ret (snd_ix (snd_call1 rfl c_costs_by (by decide +kernel) (sna_cons (snd_slot (by decide +kernel) _) sna_nil rfl) rfl (by decide +kernel) rfl) (snd_slot (by decide +kernel) _) rfl))
  snss_nil)))
theorem bk_fine {K : PySem.W.Frag} {f : Addr} {fd : FuncData} (Fn : L2.Fun K "fine" "fine" st_fine f fd) : ∀ p ∈ sh_fine, BindK fd ["scale", "days"] p.1 p.2 := by
  obtain ⟨oc, od, kV, doc, pm, an, cdv, ct, osl, rfl, lk, hcd⟩ := Fn.ex
  intro p hp
  unfold sh_fine at hp
  rcases List.mem_cons.mp hp with rfl | hp
  · intro us ws h1 h2
    match us, ws, h1, h2 with
    | [_, _], [], _, _ => rfl
  exact nomatch hp
theorem got_fine {P : Program} {w : World} {K : PySem.W.Frag} {mg : Str → Option Value} {base : Heap} (g : Gl K mg) {f : Addr} {fd : FuncData} (Fn : L2.Fun K "fine" "fine" st_fine f fd) (hm : mg "fine" = some (.ref f)) (c_costs_by : Got P w K mg base "costs_by" F_costs_by 1 sh_costs_by) (c_check_days : Got P w K mg base "check_days" F_check_days 3 sh_check_days) (c_check_scale : Got P w K mg base "check_scale" F_check_scale 5 sh_check_scale) : Got P w K mg base "fine" F_fine 6 sh_fine :=
  got_of (N := N_fine) (ps := ["scale", "days"]) (k := 5) Fn hm (by decide +kernel) (fun W => sd_fine g (Got.cal c_costs_by (by omega)) (Got.cal c_check_days (by omega)) (Got.cal c_check_scale (by omega)) W) (bk_fine Fn)
theorem sd_best_cuts {L : Lw} (g : Gl L.K L.mg) (W : XK) : SndSs L N_best_cuts (defScope st_best_cuts) (fun _ => true) W (defBody st_best_cuts) (exs [] il_best_cuts) :=
  (snss_cons (sns_set (snd_new (snf_lst (sna_cons (snd_tup (sna_cons (snd_con (by decide +kernel) _) (sna_cons (snd_con (by decide +kernel) _) sna_nil rfl) rfl)) sna_nil rfl))) rfl (by decide +kernel))
  (snss_cons (sns_for (sni_rng2 (snd_con (by decide +kernel) _) (snd_bin (snd_slot (by decide +kernel) _) (snd_con (by decide +kernel) _)) (by decide +kernel) g.z_range rfl rfl) (sng_nm (by decide +kernel)) (snss_cons (sns_app (snd_bi (b := .min) (sna_cons (snd_frz (snf_comp (own := [("part", 5)]) ⟨(sni_rng2 (snd_con (by decide +kernel) _) (snd_bin (snd_slot (by decide +kernel) _) (snd_con (by decide +kernel) _)) (by decide +kernel) g.z_range rfl rfl), (sng_nm (by decide +kernel)), snc_none, (snd_tup (sna_cons (snd_bin (snd_ix (snd_ix (snd_slot (by decide +kernel) _) (snd_bin (snd_slot (by decide +kernel) _) (snd_slot (by decide +kernel) _)) rfl) (snd_con (by decide +kernel) _) rfl) (snd_bin (snd_slot (by decide +kernel) _) (snd_ix (snd_slot (by decide +kernel) _) (snd_slot (by decide +kernel) _) rfl))) (sna_cons (snd_slot (by decide +kernel) _) sna_nil rfl) rfl)), (by decide +kernel), by decide, fun _ _ => rfl⟩)) sna_nil rfl) (by decide +kernel) g.z_min rfl) (by decide +kernel) rfl rfl)
    snss_nil) fun _ _ => rfl)
  (snss_cons (sns_ret (snd_slot (by decide +kernel) _))
  snss_nil)))
theorem bk_best_cuts {K : PySem.W.Frag} {f : Addr} {fd : FuncData} (Fn : L2.Fun K "best_cuts" "best_cuts" st_best_cuts f fd) : ∀ p ∈ sh_best_cuts, BindK fd ["costs", "days", "sign"] p.1 p.2 := by
  obtain ⟨oc, od, kV, doc, pm, an, cdv, ct, osl, rfl, lk, hcd⟩ := Fn.ex
  intro p hp
  unfold sh_best_cuts at hp
  rcases List.mem_cons.mp hp with rfl | hp
  · intro us ws h1 h2
    match us, ws, h1, h2 with
    | [_, _, _], [], _, _ => rfl
  exact nomatch hp
theorem got_best_cuts {P : Program} {w : World} {K : PySem.W.Frag} {mg : Str → Option Value} {base : Heap} (g : Gl K mg) {f : Addr} {fd : FuncData} (Fn : L2.Fun K "best_cuts" "best_cuts" st_best_cuts f fd) (hm : mg "best_cuts" = some (.ref f)) : Got P w K mg base "best_cuts" F_best_cuts 1 sh_best_cuts :=
  got_of (N := N_best_cuts) (ps := ["costs", "days", "sign"]) (k := 0) Fn hm (by decide +kernel) (fun W => sd_best_cuts g  W) (bk_best_cuts Fn)
theorem sd_told_cut {L : Lw} (g : Gl L.K L.mg) (c_best_cuts : Cal L "best_cuts" F_best_cuts sh_best_cuts) (c_costs_by : Cal L "costs_by" F_costs_by sh_costs_by) (W : XK) : SndSs L N_told_cut (defScope st_told_cut) (fun _ => true) W (defBody st_told_cut) (exs [F_best_cuts, F_costs_by] il_told_cut) :=
  (snss_cons (sns_par3 (sna_cons (snd_call1 rfl c_best_cuts (by decide +kernel) (sna_cons (snd_call1 rfl c_costs_by (by decide +kernel) (sna_cons (snd_slot (by decide +kernel) _) sna_nil rfl) rfl (by decide +kernel) rfl) (sna_cons (snd_slot (by decide +kernel) _) (sna_cons (snd_slot (by decide +kernel) _) sna_nil rfl) rfl) rfl) rfl (by decide +kernel) rfl) (sna_cons (snd_slot (by decide +kernel) _) (sna_cons (snd_new (snf_lst sna_nil)) sna_nil rfl) rfl) rfl) rfl (by decide +kernel) (by decide +kernel) (by decide +kernel) (by decide) (by decide) (by decide) rfl rfl (by decide +kernel) rfl rfl rfl rfl rfl)
  (snss_cons (sns_whl (snt_cmp (snd_slot (by decide +kernel) _) (snd_con (by decide +kernel) _) rfl) (snss_cons (sns_app (snd_ix (snd_ix (snd_slot (by decide +kernel) _) (snd_slot (by decide +kernel) _) rfl) (snd_con (by decide +kernel) _) rfl) (by decide +kernel) rfl rfl)
    (snss_cons (sns_set (snd_bin (snd_slot (by decide +kernel) _) (snd_ix (snd_ix (snd_slot (by decide +kernel) _) (snd_slot (by decide +kernel) _) rfl) (snd_con (by decide +kernel) _) rfl)) rfl (by decide +kernel))
    snss_nil)))
  (snss_cons (sns_ret (snd_tup (sna_cons (snd_bin (snd_slot (by decide +kernel) _) (snd_ix (snd_ix (snd_slot (by decide +kernel) _) (snd_slot (by decide +kernel) _) rfl) (snd_con (by decide +kernel) _) rfl)) (sna_cons (snd_bi (b := .tuple) (sna_cons (snd_frz (snf_bi (b := .sorted) (snd_slot (by decide +kernel) _) (by decide +kernel) g.z_sorted rfl)) sna_nil rfl) (by decide +kernel) g.z_tuple rfl) sna_nil rfl) rfl)))
  snss_nil)))
theorem bk_told_cut {K : PySem.W.Frag} {f : Addr} {fd : FuncData} (Fn : L2.Fun K "told_cut" "told_cut" st_told_cut f fd) : ∀ p ∈ sh_told_cut, BindK fd ["scale", "days", "sign"] p.1 p.2 := by
  obtain ⟨oc, od, kV, doc, pm, an, cdv, ct, osl, rfl, lk, hcd⟩ := Fn.ex
  intro p hp
  unfold sh_told_cut at hp
  rcases List.mem_cons.mp hp with rfl | hp
  · intro us ws h1 h2
    match us, ws, h1, h2 with
    | [_, _, _], [], _, _ => rfl
  exact nomatch hp
theorem got_told_cut {P : Program} {w : World} {K : PySem.W.Frag} {mg : Str → Option Value} {base : Heap} (g : Gl K mg) {f : Addr} {fd : FuncData} (Fn : L2.Fun K "told_cut" "told_cut" st_told_cut f fd) (hm : mg "told_cut" = some (.ref f)) (c_best_cuts : Got P w K mg base "best_cuts" F_best_cuts 1 sh_best_cuts) (c_costs_by : Got P w K mg base "costs_by" F_costs_by 1 sh_costs_by) : Got P w K mg base "told_cut" F_told_cut 2 sh_told_cut :=
  got_of (N := N_told_cut) (ps := ["scale", "days", "sign"]) (k := 1) Fn hm (by decide +kernel) (fun W => sd_told_cut g (Got.cal c_best_cuts (by omega)) (Got.cal c_costs_by (by omega)) W) (bk_told_cut Fn)
theorem sd_least_cut {L : Lw} (g : Gl L.K L.mg) (c_told_cut : Cal L "told_cut" F_told_cut sh_told_cut) (c_check_days : Cal L "check_days" F_check_days sh_check_days) (c_check_scale : Cal L "check_scale" F_check_scale sh_check_scale) (W : XK) : SndSs L N_least_cut (defScope st_least_cut) (fun _ => true) W (defBody st_least_cut) (exs [F_told_cut, F_check_days, F_check_scale] il_least_cut) :=
  (snss_cons (sns_ex (snd_call1 rfl c_check_scale (by decide +kernel) (sna_cons (snd_slot (by decide +kernel) _) sna_nil rfl) rfl (by decide +kernel) rfl) rfl)
  (snss_cons (sns_ex (snd_call1 rfl c_check_days (by decide +kernel) (sna_cons (snd_slot (by decide +kernel) _) (sna_cons (snd_con (by decide +kernel) _) sna_nil rfl) rfl) rfl (by decide +kernel) rfl) rfl)
  (snss_cons (sns_ret (snd_call1 rfl c_told_cut (by decide +kernel) (sna_cons (snd_slot (by decide +kernel) _) (sna_cons (snd_slot (by decide +kernel) _) (sna_cons (snd_con (by decide +kernel) _) sna_nil rfl) rfl) rfl) rfl (by decide +kernel) rfl))
  snss_nil)))
theorem bk_least_cut {K : PySem.W.Frag} {f : Addr} {fd : FuncData} (Fn : L2.Fun K "least_cut" "least_cut" st_least_cut f fd) : ∀ p ∈ sh_least_cut, BindK fd ["scale", "days"] p.1 p.2 := by
  obtain ⟨oc, od, kV, doc, pm, an, cdv, ct, osl, rfl, lk, hcd⟩ := Fn.ex
  intro p hp
  unfold sh_least_cut at hp
  rcases List.mem_cons.mp hp with rfl | hp
  · intro us ws h1 h2
    match us, ws, h1, h2 with
    | [_, _], [], _, _ => rfl
  exact nomatch hp
theorem got_least_cut {P : Program} {w : World} {K : PySem.W.Frag} {mg : Str → Option Value} {base : Heap} (g : Gl K mg) {f : Addr} {fd : FuncData} (Fn : L2.Fun K "least_cut" "least_cut" st_least_cut f fd) (hm : mg "least_cut" = some (.ref f)) (c_told_cut : Got P w K mg base "told_cut" F_told_cut 2 sh_told_cut) (c_check_days : Got P w K mg base "check_days" F_check_days 3 sh_check_days) (c_check_scale : Got P w K mg base "check_scale" F_check_scale 5 sh_check_scale) : Got P w K mg base "least_cut" F_least_cut 6 sh_least_cut :=
  got_of (N := N_least_cut) (ps := ["scale", "days"]) (k := 5) Fn hm (by decide +kernel) (fun W => sd_least_cut g (Got.cal c_told_cut (by omega)) (Got.cal c_check_days (by omega)) (Got.cal c_check_scale (by omega)) W) (bk_least_cut Fn)
theorem sd_are_sums {L : Lw} (g : Gl L.K L.mg) (c_is_between : Cal L "is_between" F_is_between sh_is_between) (W : XK) : SndSs L N_are_sums (defScope st_are_sums) (fun _ => true) W (defBody st_are_sums) (exs [F_is_between] il_are_sums) :=
  (snss_cons (sns_if (SndW.pt (snw_or (snt_not (snt_plain (snd_bi (b := .isi) (sna_cons (snd_slot (by decide +kernel) _) (sna_cons (snd_glo (by decide +kernel) (g.g_tuple _ _ _ _) _) sna_nil rfl) rfl) (by decide +kernel) g.z_isinstance rfl) fun _ _ => rfl)) (snw_or1 (snt_not (snt_chn (snd_con (by decide +kernel) _) (snd_bi (b := .len) (sna_cons (snd_slot (by decide +kernel) _) sna_nil rfl) (by decide +kernel) g.z_len rfl) (snd_glo (by decide +kernel) (g.g_MOST_SUMS _ _ _ _) _) rfl))))) (snss_cons (sns_ret (snd_con (by decide +kernel) _))
    snss_nil) snss_nil)
  (snss_cons (sns_for (sni_seq (snd_slot (by decide +kernel) _)) (sng_nm (by decide +kernel)) (snss_cons (sns_if (SndW.pt (snw_or (snt_not (snt_plain (snd_bi (b := .isi) (sna_cons (snd_slot (by decide +kernel) _) (sna_cons (snd_glo (by decide +kernel) (g.g_tuple _ _ _ _) _) sna_nil rfl) rfl) (by decide +kernel) g.z_isinstance rfl) fun _ _ => rfl)) (snw_or (snt_cmp (snd_bi (b := .len) (sna_cons (snd_slot (by decide +kernel) _) sna_nil rfl) (by decide +kernel) g.z_len rfl) (snd_con (by decide +kernel) _) rfl) (snw_or1 (snt_not (snt_plain (snd_call1 rfl c_is_between (by decide +kernel) (sna_cons (snd_ix (snd_slot (by decide +kernel) _) (snd_con (by decide +kernel) _) rfl) (sna_cons (snd_con (by decide +kernel) _) (sna_cons (snd_glo (by decide +kernel) (g.g_MOST_DAYS _ _ _ _) _) sna_nil rfl) rfl) rfl) rfl (by decide +kernel) rfl) fun _ _ => rfl)))))) (snss_cons (sns_ret (snd_con (by decide +kernel) _))
      snss_nil) snss_nil)
    (snss_cons (sns_if (snt_not (snt_plain (snd_call1 rfl c_is_between (by decide +kernel) (sna_cons (snd_ix (snd_slot (by decide +kernel) _) (snd_con (by decide +kernel) _) rfl) (sna_cons (snd_con (by decide +kernel) _) (sna_cons (snd_glo (by decide +kernel) (g.g_MOST_SUM _ _ _ _) _) sna_nil rfl) rfl) rfl) rfl (by decide +kernel) rfl) fun _ _ => rfl)) (snss_cons (sns_ret (snd_con (by decide +kernel) _))
      snss_nil) snss_nil)
    snss_nil)) fun _ _ => rfl)
  (snss_cons (sns_ret (snd_bi (b := .all) (sna_cons (snd_frz (snf_comp (own := [("one", 2), ("other", 3)]) ⟨(sni_zip (snd_slot (by decide +kernel) _) (snd_sl (snd_slot (by decide +kernel) _) (snp_some (snd_con (by decide +kernel) _)) snp_none) (by decide +kernel) g.z_zip rfl rfl), (sng_tp (sngs_cons (sng_nm (by decide +kernel)) (sngs_cons (sng_nm (by decide +kernel)) sngs_nil rfl) rfl) rfl rfl), snc_none, (snd_cmp (snd_ix (snd_slot (by decide +kernel) _) (snd_con (by decide +kernel) _) rfl) (snd_ix (snd_slot (by decide +kernel) _) (snd_con (by decide +kernel) _) rfl) rfl), (by decide +kernel), by decide, fun _ _ => rfl⟩)) sna_nil rfl) (by decide +kernel) g.z_all rfl))
  snss_nil)))
theorem bk_are_sums {K : PySem.W.Frag} {f : Addr} {fd : FuncData} (Fn : L2.Fun K "are_sums" "are_sums" st_are_sums f fd) : ∀ p ∈ sh_are_sums, BindK fd ["value"] p.1 p.2 := by
  obtain ⟨oc, od, kV, doc, pm, an, cdv, ct, osl, rfl, lk, hcd⟩ := Fn.ex
  intro p hp
  unfold sh_are_sums at hp
  rcases List.mem_cons.mp hp with rfl | hp
  · intro us ws h1 h2
    match us, ws, h1, h2 with
    | [_], [], _, _ => rfl
  exact nomatch hp
theorem got_are_sums {P : Program} {w : World} {K : PySem.W.Frag} {mg : Str → Option Value} {base : Heap} (g : Gl K mg) {f : Addr} {fd : FuncData} (Fn : L2.Fun K "are_sums" "are_sums" st_are_sums f fd) (hm : mg "are_sums" = some (.ref f)) (c_is_between : Got P w K mg base "is_between" F_is_between 2 sh_is_between) : Got P w K mg base "are_sums" F_are_sums 3 sh_are_sums :=
  got_of (N := N_are_sums) (ps := ["value"]) (k := 2) Fn hm (by decide +kernel) (fun W => sd_are_sums g (Got.cal c_is_between (by omega)) W) (bk_are_sums Fn)
theorem sd_check_sums {L : Lw} (g : Gl L.K L.mg) (c_are_sums : Cal L "are_sums" F_are_sums sh_are_sums) (W : XK) : SndSs L N_check_sums (defScope st_check_sums) (fun _ => true) W (defBody st_check_sums) (exs [F_are_sums] il_check_sums) :=
  (snss_cons (sns_if (snt_not (snt_plain (snd_call1 rfl c_are_sums (by decide +kernel) (sna_cons (snd_slot (by decide +kernel) _) sna_nil rfl) rfl (by decide +kernel) rfl) fun _ _ => rfl)) (snss_cons sns_never
    snss_nil) snss_nil)
  snss_nil)
theorem bk_check_sums {K : PySem.W.Frag} {f : Addr} {fd : FuncData} (Fn : L2.Fun K "check_sums" "check_sums" st_check_sums f fd) : ∀ p ∈ sh_check_sums, BindK fd ["sums"] p.1 p.2 := by
  obtain ⟨oc, od, kV, doc, pm, an, cdv, ct, osl, rfl, lk, hcd⟩ := Fn.ex
  intro p hp
  unfold sh_check_sums at hp
  rcases List.mem_cons.mp hp with rfl | hp
  · intro us ws h1 h2
    match us, ws, h1, h2 with
    | [_], [], _, _ => rfl
  exact nomatch hp
theorem got_check_sums {P : Program} {w : World} {K : PySem.W.Frag} {mg : Str → Option Value} {base : Heap} (g : Gl K mg) {f : Addr} {fd : FuncData} (Fn : L2.Fun K "check_sums" "check_sums" st_check_sums f fd) (hm : mg "check_sums" = some (.ref f)) (c_are_sums : Got P w K mg base "are_sums" F_are_sums 3 sh_are_sums) : Got P w K mg base "check_sums" F_check_sums 4 sh_check_sums :=
  got_of (N := N_check_sums) (ps := ["sums"]) (k := 3) Fn hm (by decide +kernel) (fun W => sd_check_sums g (Got.cal c_are_sums (by omega)) W) (bk_check_sums Fn)
theorem sd_least_rows {L : Lw} (g : Gl L.K L.mg) (W : XK) : SndSs L N_least_rows (defScope st_least_rows) (fun _ => true) W (defBody st_least_rows) (exs [] il_least_rows) :=
  (snss_cons (sns_set (snd_new (snf_lst (sna_cons (snd_tup (sna_cons (snd_con (by decide +kernel) _) (sna_cons (snd_con (by decide +kernel) _) sna_nil rfl) rfl)) sna_nil rfl))) rfl (by decide +kernel))
  (snss_cons (sns_for (sni_rng2 (snd_con (by decide +kernel) _) (snd_bin (snd_slot (by decide +kernel) _) (snd_con (by decide +kernel) _)) (by decide +kernel) g.z_range rfl rfl) (sng_nm (by decide +kernel)) (snss_cons (by first | exact sns_lc (own := [("at", 5), ("own", 6), ("cost", 7)]) ⟨(sni_enum (snd_slot (by decide +kernel) _) (by decide +kernel) g.z_enumerate rfl), (sng_tp (sngs_cons (sng_nm (by decide +kernel)) (sngs_cons (sng_tp (sngs_cons (sng_nm (by decide +kernel)) (sngs_cons (sng_nm (by decide +kernel)) sngs_nil rfl) rfl) rfl rfl) sngs_nil rfl) rfl) rfl rfl), snc_none, (snd_tup (sna_cons (snd_bin (snd_ix (snd_ix (snd_slot (by decide +kernel) _) (snd_bi (b := .max) (sna_cons (snd_con (by decide +kernel) _) (sna_cons (snd_bin (snd_slot (by decide +kernel) _) (snd_slot (by decide +kernel) _)) sna_nil rfl) rfl) (by decide +kernel) g.z_max rfl) rfl) (snd_con (by decide +kernel) _) rfl) (snd_slot (by decide +kernel) _)) (sna_cons (snd_slot (by decide +kernel) _) sna_nil rfl) rfl)), (by decide +kernel), by decide, fun _ _ => rfl⟩ (.inr rfl) (by decide +kernel) rfl rfl (by decide +kernel) | exact sns_lc' (snd_frz (snf_comp (own := [("at", 5), ("own", 6), ("cost", 7)]) ⟨(sni_enum (snd_slot (by decide +kernel) _) (by decide +kernel) g.z_enumerate rfl), (sng_tp (sngs_cons (sng_nm (by decide +kernel)) (sngs_cons (sng_tp (sngs_cons (sng_nm (by decide +kernel)) (sngs_cons (sng_nm (by decide +kernel)) sngs_nil rfl) rfl) rfl rfl) sngs_nil rfl) rfl) rfl rfl), snc_none, (snd_tup (sna_cons (snd_bin (snd_ix (snd_ix (snd_slot (by decide +kernel) _) (snd_bi (b := .max) (sna_cons (snd_con (by decide +kernel) _) (sna_cons (snd_bin (snd_slot (by decide +kernel) _) (snd_slot (by decide +kernel) _)) sna_nil rfl) rfl) (by decide +kernel) g.z_max rfl) rfl) (snd_con (by decide +kernel) _) rfl) (snd_slot (by decide +kernel) _)) (sna_cons (snd_slot (by decide +kernel) _) sna_nil rfl) rfl)), (by decide +kernel), by decide, fun _ _ => rfl⟩)) (by decide +kernel) rfl (by decide +kernel))
    (snss_cons (sns_app (snd_bi (b := .min) (sna_cons (snd_slot (by decide +kernel) _) sna_nil rfl) (by decide +kernel) g.z_min rfl) (by decide +kernel) rfl rfl)
    snss_nil)) fun _ _ => rfl)
  (snss_cons (sns_ret (snd_slot (by decide +kernel) _))
  snss_nil)))
theorem bk_least_rows {K : PySem.W.Frag} {f : Addr} {fd : FuncData} (Fn : L2.Fun K "least_rows" "least_rows" st_least_rows f fd) : ∀ p ∈ sh_least_rows, BindK fd ["sums", "days"] p.1 p.2 := by
  obtain ⟨oc, od, kV, doc, pm, an, cdv, ct, osl, rfl, lk, hcd⟩ := Fn.ex
  intro p hp
  unfold sh_least_rows at hp
  rcases List.mem_cons.mp hp with rfl | hp
  · intro us ws h1 h2
    match us, ws, h1, h2 with
    | [_, _], [], _, _ => rfl
  exact nomatch hp
theorem got_least_rows {P : Program} {w : World} {K : PySem.W.Frag} {mg : Str → Option Value} {base : Heap} (g : Gl K mg) {f : Addr} {fd : FuncData} (Fn : L2.Fun K "least_rows" "least_rows" st_least_rows f fd) (hm : mg "least_rows" = some (.ref f)) : Got P w K mg base "least_rows" F_least_rows 1 sh_least_rows :=
  got_of (N := N_least_rows) (ps := ["sums", "days"]) (k := 0) Fn hm (by decide +kernel) (fun W => sd_least_rows g  W) (bk_least_rows Fn)
theorem sd_below {L : Lw} (g : Gl L.K L.mg) (c_least_rows : Cal L "least_rows" F_least_rows sh_least_rows) (c_check_days : Cal L "check_days" F_check_days sh_check_days) (c_check_sums : Cal L "check_sums" F_check_sums sh_check_sums) (W : XK) : SndSs L N_below (defScope st_below) (fun _ => true) W (defBody st_below) (exs [F_least_rows, F_check_days, F_check_sums] il_below) :=
  (snss_cons (sns_ex (snd_call1 rfl c_check_sums (by decide +kernel) (sna_cons (snd_slot (by decide +kernel) _) sna_nil rfl) rfl (by decide +kernel) rfl) rfl)
  (snss_cons (sns_ex (snd_call1 rfl c_check_days (by decide +kernel) (sna_cons (snd_slot (by decide +kernel) _) (sna_cons (snd_con (by decide +kernel) _) sna_nil rfl) rfl) rfl (by decide +kernel) rfl) rfl)
  (snss_cons (sns_par3 (sna_cons (snd_call1 rfl c_least_rows (by decide +kernel) (sna_cons (snd_slot (by decide +kernel) _) (sna_cons (snd_slot (by decide +kernel) _) sna_nil rfl) rfl) rfl (by decide +kernel) rfl) (sna_cons (snd_slot (by decide +kernel) _) (sna_cons (snd_new (snf_lst sna_nil)) sna_nil rfl) rfl) rfl) rfl (by decide +kernel) (by decide +kernel) (by decide +kernel) (by decide) (by decide) (by decide) rfl rfl (by decide +kernel) rfl rfl rfl rfl rfl)
  (snss_cons (sns_whl (snt_cmp (snd_slot (by decide +kernel) _) (snd_con (by decide +kernel) _) rfl) (snss_cons (sns_app (snd_ix (snd_ix (snd_slot (by decide +kernel) _) (snd_slot (by decide +kernel) _) rfl) (snd_con (by decide +kernel) _) rfl) (by decide +kernel) rfl rfl)
    (snss_cons (sns_set (snd_bin (snd_slot (by decide +kernel) _) (snd_ix (snd_ix (snd_slot (by decide +kernel) _) (snd_ix (snd_slot (by decide +kernel) _) (snd_neg (snd_con (by decide +kernel) _)) rfl) rfl) (snd_con (by decide +kernel) _) rfl)) rfl (by decide +kernel))
    snss_nil)))
  (snss_cons (sns_ret (snd_tup (sna_cons (snd_ix (snd_ix (snd_slot (by decide +kernel) _) (snd_slot (by decide +kernel) _) rfl) (snd_con (by decide +kernel) _) rfl) (sna_cons (snd_bi (b := .tuple) (sna_cons (snd_frz (snf_bi (b := .sorted) (snd_slot (by decide +kernel) _) (by decide +kernel) g.z_sorted rfl)) sna_nil rfl) (by decide +kernel) g.z_tuple rfl) sna_nil rfl) rfl)))
  snss_nil)))))
theorem bk_below {K : PySem.W.Frag} {f : Addr} {fd : FuncData} (Fn : L2.Fun K "below" "below" st_below f fd) : ∀ p ∈ sh_below, BindK fd ["sums", "days"] p.1 p.2 := by
  obtain ⟨oc, od, kV, doc, pm, an, cdv, ct, osl, rfl, lk, hcd⟩ := Fn.ex
  intro p hp
  unfold sh_below at hp
  rcases List.mem_cons.mp hp with rfl | hp
  · intro us ws h1 h2
    match us, ws, h1, h2 with
    | [_, _], [], _, _ => rfl
  rcases List.mem_cons.mp hp with rfl | hp
  · intro us ws h1 h2
    match us, ws, h1, h2 with
    | [], [_, _], _, _ => rfl
  exact nomatch hp
theorem got_below {P : Program} {w : World} {K : PySem.W.Frag} {mg : Str → Option Value} {base : Heap} (g : Gl K mg) {f : Addr} {fd : FuncData} (Fn : L2.Fun K "below" "below" st_below f fd) (hm : mg "below" = some (.ref f)) (c_least_rows : Got P w K mg base "least_rows" F_least_rows 1 sh_least_rows) (c_check_days : Got P w K mg base "check_days" F_check_days 3 sh_check_days) (c_check_sums : Got P w K mg base "check_sums" F_check_sums 4 sh_check_sums) : Got P w K mg base "below" F_below 5 sh_below :=
  got_of (N := N_below) (ps := ["sums", "days"]) (k := 4) Fn hm (by decide +kernel) (fun W => sd_below g (Got.cal c_least_rows (by omega)) (Got.cal c_check_days (by omega)) (Got.cal c_check_sums (by omega)) W) (bk_below Fn)
theorem sd_shows_below {L : Lw} (g : Gl L.K L.mg) (c_is_between : Cal L "is_between" F_is_between sh_is_between) (c_least_rows : Cal L "least_rows" F_least_rows sh_least_rows) (c_is_integer : Cal L "is_integer" F_is_integer sh_is_integer) (c_check_days : Cal L "check_days" F_check_days sh_check_days) (c_check_sums : Cal L "check_sums" F_check_sums sh_check_sums) (W : XK) : SndSs L N_shows_below (defScope st_shows_below) (fun _ => true) W (defBody st_shows_below) (exs [F_is_between, F_least_rows, F_is_integer, F_check_days, F_check_sums] il_shows_below) :=
  (snss_cons (sns_ex (snd_call1 rfl c_check_sums (by decide +kernel) (sna_cons (snd_slot (by decide +kernel) _) sna_nil rfl) rfl (by decide +kernel) rfl) rfl)
  (snss_cons (sns_ex (snd_call1 rfl c_check_days (by decide +kernel) (sna_cons (snd_slot (by decide +kernel) _) (sna_cons (snd_con (by decide +kernel) _) sna_nil rfl) rfl) rfl (by decide +kernel) rfl) rfl)
  (snss_cons (sns_if (SndW.pt (snw_or (snt_not (snt_plain (snd_bi (b := .isi) (sna_cons (snd_slot (by decide +kernel) _) (sna_cons (snd_glo (by decide +kernel) (g.g_tuple _ _ _ _) _) sna_nil rfl) rfl) (by decide +kernel) g.z_isinstance rfl) fun _ _ => rfl)) (snw_or (snt_cmp (snd_bi (b := .len) (sna_cons (snd_slot (by decide +kernel) _) sna_nil rfl) (by decide +kernel) g.z_len rfl) (snd_con (by decide +kernel) _) rfl) (snw_or (snt_not (snt_plain (snd_call1 rfl c_is_integer (by decide +kernel) (sna_cons (snd_ix (snd_slot (by decide +kernel) _) (snd_con (by decide +kernel) _) rfl) sna_nil rfl) rfl (by decide +kernel) rfl) fun _ _ => rfl)) (snw_or1 (snt_not (snt_plain (snd_bi (b := .isi) (sna_cons (snd_ix (snd_slot (by decide +kernel) _) (snd_con (by decide +kernel) _) rfl) (sna_cons (snd_glo (by decide +kernel) (g.g_tuple _ _ _ _) _) sna_nil rfl) rfl) (by decide +kernel) g.z_isinstance rfl) fun _ _ => rfl))))))) (snss_cons (sns_ret (snd_con (by decide +kernel) _))
    snss_nil) snss_nil)
  (snss_cons (sns_tup (snd_slot (by decide +kernel) _) (sng_tp (sngs_cons (sng_nm (by decide +kernel)) (sngs_cons (sng_nm (by decide +kernel)) sngs_nil rfl) rfl) rfl rfl) rfl (fun _ _ => sw_nt rfl))
  (snss_cons (sns_if (SndW.pt (snw_or (snt_cmp (snd_slot (by decide +kernel) _) (snd_ix (snd_ix (snd_call1 rfl c_least_rows (by decide +kernel) (sna_cons (snd_slot (by decide +kernel) _) (sna_cons (snd_slot (by decide +kernel) _) sna_nil rfl) rfl) rfl (by decide +kernel) rfl) (snd_slot (by decide +kernel) _) rfl) (snd_con (by decide +kernel) _) rfl) rfl) (snw_or1 (snt_not (snt_plain (snd_bi (b := .all) (sna_cons (snd_frz (snf_comp (own := [("at", 5)]) ⟨(sni_seq (snd_slot (by decide +kernel) _)), (sng_nm (by decide +kernel)), snc_none, (snd_call1 rfl c_is_between (by decide +kernel) (sna_cons (snd_slot (by decide +kernel) _) (sna_cons (snd_con (by decide +kernel) _) (sna_cons (snd_bin (snd_bi (b := .len) (sna_cons (snd_slot (by decide +kernel) _) sna_nil rfl) (by decide +kernel) g.z_len rfl) (snd_con (by decide +kernel) _)) sna_nil rfl) rfl) rfl) rfl (by decide +kernel) rfl), (by decide +kernel), by decide, fun _ _ => rfl⟩)) sna_nil rfl) (by decide +kernel) g.z_all rfl) fun _ _ => rfl))))) (snss_cons (sns_ret (snd_con (by decide +kernel) _))
    snss_nil) snss_nil)
  (snss_cons (sns_if (snt_cmp (snd_slot (by decide +kernel) _) (snd_con (by decide +kernel) _) rfl) (snss_cons (sns_ret (snd_cmp (snd_slot (by decide +kernel) _) (snd_tup sna_nil) rfl))
    snss_nil) snss_nil)
  (snss_cons (sns_if (SndW.pt (snw_or (snt_not (snt_plain (snd_bi (b := .all) (sna_cons (snd_frz (snf_comp (own := [("one", 6), ("other", 7)]) ⟨(sni_zip (snd_slot (by decide +kernel) _) (snd_sl (snd_slot (by decide +kernel) _) (snp_some (snd_con (by decide +kernel) _)) snp_none) (by decide +kernel) g.z_zip rfl rfl), (sng_tp (sngs_cons (sng_nm (by decide +kernel)) (sngs_cons (sng_nm (by decide +kernel)) sngs_nil rfl) rfl) rfl rfl), snc_none, (snd_cmp (snd_slot (by decide +kernel) _) (snd_slot (by decide +kernel) _) rfl), (by decide +kernel), by decide, fun _ _ => rfl⟩)) sna_nil rfl) (by decide +kernel) g.z_all rfl) fun _ _ => rfl)) (snw_or1 (snt_cmp (snd_bi (b := .sum) (sna_cons (snd_frz (snf_comp (own := [("at", 5)]) ⟨(sni_seq (snd_slot (by decide +kernel) _)), (sng_nm (by decide +kernel)), snc_none, (snd_ix (snd_ix (snd_slot (by decide +kernel) _) (snd_slot (by decide +kernel) _) rfl) (snd_con (by decide +kernel) _) rfl), (by decide +kernel), by decide, fun _ _ => rfl⟩)) sna_nil rfl) (by decide +kernel) g.z_sum rfl) (snd_slot (by decide +kernel) _) rfl)))) (snss_cons (sns_ret (snd_con (by decide +kernel) _))
    snss_nil) snss_nil)
  (snss_cons (sns_ret (snd_cmp (snd_bi (b := .sum) (sna_cons (snd_frz (snf_comp (own := [("at", 5)]) ⟨(sni_seq (snd_slot (by decide +kernel) _)), (sng_nm (by decide +kernel)), snc_none, (snd_ix (snd_ix (snd_slot (by decide +kernel) _) (snd_slot (by decide +kernel) _) rfl) (snd_con (by decide +kernel) _) rfl), (by decide +kernel), by decide, fun _ _ => rfl⟩)) sna_nil rfl) (by decide +kernel) g.z_sum rfl) (snd_slot (by decide +kernel) _) rfl))
  snss_nil))))))))
theorem bk_shows_below {K : PySem.W.Frag} {f : Addr} {fd : FuncData} (Fn : L2.Fun K "shows_below" "shows_below" st_shows_below f fd) : ∀ p ∈ sh_shows_below, BindK fd ["sums", "days", "value"] p.1 p.2 := by
  obtain ⟨oc, od, kV, doc, pm, an, cdv, ct, osl, rfl, lk, hcd⟩ := Fn.ex
  intro p hp
  unfold sh_shows_below at hp
  rcases List.mem_cons.mp hp with rfl | hp
  · intro us ws h1 h2
    match us, ws, h1, h2 with
    | [], [_, _, _], _, _ => rfl
  exact nomatch hp
theorem got_shows_below {P : Program} {w : World} {K : PySem.W.Frag} {mg : Str → Option Value} {base : Heap} (g : Gl K mg) {f : Addr} {fd : FuncData} (Fn : L2.Fun K "shows_below" "shows_below" st_shows_below f fd) (hm : mg "shows_below" = some (.ref f)) (c_is_between : Got P w K mg base "is_between" F_is_between 2 sh_is_between) (c_least_rows : Got P w K mg base "least_rows" F_least_rows 1 sh_least_rows) (c_is_integer : Got P w K mg base "is_integer" F_is_integer 1 sh_is_integer) (c_check_days : Got P w K mg base "check_days" F_check_days 3 sh_check_days) (c_check_sums : Got P w K mg base "check_sums" F_check_sums 4 sh_check_sums) : Got P w K mg base "shows_below" F_shows_below 5 sh_shows_below :=
  got_of (N := N_shows_below) (ps := ["sums", "days", "value"]) (k := 4) Fn hm (by decide +kernel) (fun W => sd_shows_below g (Got.cal c_is_between (by omega)) (Got.cal c_least_rows (by omega)) (Got.cal c_is_integer (by omega)) (Got.cal c_check_days (by omega)) (Got.cal c_check_sums (by omega)) W) (bk_shows_below Fn)
theorem sd_law_pot {L : Lw} (g : Gl L.K L.mg) (W : XK) : SndSs L N_law_pot (defScope st_law_pot) (fun _ => true) W (defBody st_law_pot) (exs [] il_law_pot) :=
  (snss_cons (sns_set (snd_ifx (snt_cmp (snd_slot (by decide +kernel) _) (snd_bi (b := .len) (sna_cons (snd_slot (by decide +kernel) _) sna_nil rfl) (by decide +kernel) g.z_len rfl) rfl) (snd_ix (snd_slot (by decide +kernel) _) (snd_slot (by decide +kernel) _) rfl) (snd_bin (snd_bin (snd_bin (snd_bi (b := .sum) (sna_cons (snd_sl (snd_slot (by decide +kernel) _) snp_none (snp_some (snd_con (by decide +kernel) _))) sna_nil rfl) (by decide +kernel) g.z_sum rfl) (snd_con (by decide +kernel) _)) (snd_bin (snd_con (by decide +kernel) _) (snd_slot (by decide +kernel) _))) (snd_con (by decide +kernel) _))) rfl (by decide +kernel))
  (snss_cons (sns_set (snd_bin (snd_bin (snd_bi (b := .int) (sna_cons (snd_bi (b := .abs) (sna_cons (snd_slot (by decide +kernel) _) sna_nil rfl) (by decide +kernel) g.z_abs rfl) sna_nil rfl) (by decide +kernel) g.z_int rfl) (snd_bin (snd_bin (snd_con (by decide +kernel) _) (snd_con (by decide +kernel) _)) (snd_con (by decide +kernel) _))) (snd_bi (b := .int) (sna_cons (snd_cmp (snd_bi (b := .abs) (sna_cons (snd_slot (by decide +kernel) _) sna_nil rfl) (by decide +kernel) g.z_abs rfl) (snd_bin (snd_con (by decide +kernel) _) (snd_con (by decide +kernel) _)) rfl) sna_nil rfl) (by decide +kernel) g.z_int rfl)) rfl (by decide +kernel))
  (snss_cons (sns_set (snd_bin (snd_bi (b := .int) (sna_cons (snd_slot (by decide +kernel) _) sna_nil rfl) (by decide +kernel) g.z_int rfl) (snd_con (by decide +kernel) _)) rfl (by decide +kernel))
  (snss_cons (sns_ret (snd_new (snf_lst (sna_cons (snd_slot (by decide +kernel) _) (sna_cons (snd_bin (snd_bi (b := .int) (sna_cons (snd_bin (snd_bin (snd_bin (snd_slot (by decide +kernel) _) (snd_con (by decide +kernel) _)) (snd_bin (snd_bin (snd_con (by decide +kernel) _) (snd_slot (by decide +kernel) _)) (snd_slot (by decide +kernel) _))) (snd_con (by decide +kernel) _)) sna_nil rfl) (by decide +kernel) g.z_int rfl) (snd_con (by decide +kernel) _)) (sna_cons (snd_con (by decide +kernel) _) sna_nil rfl) rfl) rfl))))
  snss_nil))))
theorem bk_law_pot {K : PySem.W.Frag} {f : Addr} {fd : FuncData} (Fn : L2.Fun K "_law_pot" "_law_pot" st_law_pot f fd) : ∀ p ∈ sh_law_pot, BindK fd ["script", "place"] p.1 p.2 := by
  obtain ⟨oc, od, kV, doc, pm, an, cdv, ct, osl, rfl, lk, hcd⟩ := Fn.ex
  intro p hp
  unfold sh_law_pot at hp
  rcases List.mem_cons.mp hp with rfl | hp
  · intro us ws h1 h2
    match us, ws, h1, h2 with
    | [_, _], [], _, _ => rfl
  exact nomatch hp
theorem got_law_pot {P : Program} {w : World} {K : PySem.W.Frag} {mg : Str → Option Value} {base : Heap} (g : Gl K mg) {f : Addr} {fd : FuncData} (Fn : L2.Fun K "_law_pot" "_law_pot" st_law_pot f fd) (hm : mg "_law_pot" = some (.ref f)) : Got P w K mg base "_law_pot" F_law_pot 1 sh_law_pot :=
  got_of (N := N_law_pot) (ps := ["script", "place"]) (k := 0) Fn hm (by decide +kernel) (fun W => sd_law_pot g  W) (bk_law_pot Fn)
theorem sd_law_take {L : Lw} (g : Gl L.K L.mg) (W : XK) : SndSs L N_law_take (defScope st_law_take) (fun _ => true) W (defBody st_law_take) (exs [] il_law_take) :=
  (snss_cons (sns_if (snt_cmp (snd_ix (snd_slot (by decide +kernel) _) (snd_con (by decide +kernel) _) rfl) (snd_con (by decide +kernel) _) rfl) (snss_cons (sns_set (snd_bin (snd_bi (b := .int) (sna_cons (snd_ix (snd_slot (by decide +kernel) _) (snd_con (by decide +kernel) _) rfl) sna_nil rfl) (by decide +kernel) g.z_int rfl) (snd_slot (by decide +kernel) _)) rfl (by decide +kernel))
    (snss_cons (sns_sti (snd_bin (snd_ix (snd_slot (by decide +kernel) _) (snd_con (by decide +kernel) _) rfl) (snd_slot (by decide +kernel) _)) (snd_con (by decide +kernel) _) (by decide +kernel) rfl (fun _ _ => sw_sub) rfl)
    (snss_cons (sns_ret (snd_slot (by decide +kernel) _))
    snss_nil))) snss_nil)
  (snss_cons (sns_sti (snd_bin (snd_ix (snd_slot (by decide +kernel) _) (snd_con (by decide +kernel) _) rfl) (snd_con (by decide +kernel) _)) (snd_con (by decide +kernel) _) (by decide +kernel) rfl (fun _ _ => sw_sub) rfl)
  (snss_cons (sns_set (snd_ix (snd_frz (snf_lst (sna_cons (snd_con (by decide +kernel) _) (sna_cons (snd_con (by decide +kernel) _) (sna_cons (snd_con (by decide +kernel) _) (sna_cons (snd_con (by decide +kernel) _) (sna_cons (snd_con (by decide +kernel) _) sna_nil rfl) rfl) rfl) rfl) rfl))) (snd_bin (snd_bi (b := .int) (sna_cons (snd_ix (snd_slot (by decide +kernel) _) (snd_con (by decide +kernel) _) rfl) sna_nil rfl) (by decide +kernel) g.z_int rfl) (snd_con (by decide +kernel) _)) rfl) rfl (by decide +kernel))
  (snss_cons (sns_set (snd_bin (snd_bi (b := .int) (sna_cons (snd_bin (snd_bi (b := .int) (sna_cons (snd_bin (snd_bin (snd_ix (snd_slot (by decide +kernel) _) (snd_con (by decide +kernel) _) rfl) (snd_bin (snd_bin (snd_con (by decide +kernel) _) (snd_ix (snd_slot (by decide +kernel) _) (snd_con (by decide +kernel) _) rfl)) (snd_ix (snd_slot (by decide +kernel) _) (snd_con (by decide +kernel) _) rfl))) (snd_con (by decide +kernel) _)) sna_nil rfl) (by decide +kernel) g.z_int rfl) (snd_con (by decide +kernel) _)) sna_nil rfl) (by decide +kernel) g.z_int rfl) (snd_slot (by decide +kernel) _)) rfl (by decide +kernel))
  (snss_cons (sns_set (snd_bin (snd_bi (b := .int) (sna_cons (snd_bin (snd_slot (by decide +kernel) _) (snd_bin (snd_bin (snd_bi (b := .int) (sna_cons (snd_slot (by decide +kernel) _) sna_nil rfl) (by decide +kernel) g.z_int rfl) (snd_con (by decide +kernel) _)) (snd_bin (snd_con (by decide +kernel) _) (snd_ix (snd_slot (by decide +kernel) _) (snd_con (by decide +kernel) _) rfl)))) sna_nil rfl) (by decide +kernel) g.z_int rfl) (snd_con (by decide +kernel) _)) rfl (by decide +kernel))
  (snss_cons (sns_ret (snd_bin (snd_bi (b := .int) (sna_cons (snd_bin (snd_slot (by decide +kernel) _) (snd_con (by decide +kernel) _)) sna_nil rfl) (by decide +kernel) g.z_int rfl) (snd_slot (by decide +kernel) _)))
  snss_nil))))))
theorem bk_law_take {K : PySem.W.Frag} {f : Addr} {fd : FuncData} (Fn : L2.Fun K "_law_take" "_law_take" st_law_take f fd) : ∀ p ∈ sh_law_take, BindK fd ["pot", "upto"] p.1 p.2 := by
  obtain ⟨oc, od, kV, doc, pm, an, cdv, ct, osl, rfl, lk, hcd⟩ := Fn.ex
  intro p hp
  unfold sh_law_take at hp
  rcases List.mem_cons.mp hp with rfl | hp
  · intro us ws h1 h2
    match us, ws, h1, h2 with
    | [_, _], [], _, _ => rfl
  exact nomatch hp
theorem got_law_take {P : Program} {w : World} {K : PySem.W.Frag} {mg : Str → Option Value} {base : Heap} (g : Gl K mg) {f : Addr} {fd : FuncData} (Fn : L2.Fun K "_law_take" "_law_take" st_law_take f fd) (hm : mg "_law_take" = some (.ref f)) : Got P w K mg base "_law_take" F_law_take 1 sh_law_take :=
  got_of (N := N_law_take) (ps := ["pot", "upto"]) (k := 0) Fn hm (by decide +kernel) (fun W => sd_law_take g  W) (bk_law_take Fn)
theorem sd_law_of {L : Lw} (g : Gl L.K L.mg) (c__law_take : Cal L "_law_take" F_law_take sh_law_take) (W : XK) : SndSs L N_law_of (defScope st_law_of) (fun _ => true) W (defBody st_law_of) (exs [F_law_take] il_law_of) :=
  (snss_cons (sns_ret (snd_ix (snd_slot (by decide +kernel) _) (snd_call1 rfl c__law_take (by decide +kernel) (sna_cons (snd_slot (by decide +kernel) _) (sna_cons (snd_bi (b := .len) (sna_cons (snd_slot (by decide +kernel) _) sna_nil rfl) (by decide +kernel) g.z_len rfl) sna_nil rfl) rfl) rfl (by decide +kernel) rfl) rfl))
  snss_nil)
theorem bk_law_of {K : PySem.W.Frag} {f : Addr} {fd : FuncData} (Fn : L2.Fun K "_law_of" "_law_of" st_law_of f fd) : ∀ p ∈ sh_law_of, BindK fd ["pot", "some"] p.1 p.2 := by
  obtain ⟨oc, od, kV, doc, pm, an, cdv, ct, osl, rfl, lk, hcd⟩ := Fn.ex
  intro p hp
  unfold sh_law_of at hp
  rcases List.mem_cons.mp hp with rfl | hp
  · intro us ws h1 h2
    match us, ws, h1, h2 with
    | [_, _], [], _, _ => rfl
  exact nomatch hp
theorem got_law_of {P : Program} {w : World} {K : PySem.W.Frag} {mg : Str → Option Value} {base : Heap} (g : Gl K mg) {f : Addr} {fd : FuncData} (Fn : L2.Fun K "_law_of" "_law_of" st_law_of f fd) (hm : mg "_law_of" = some (.ref f)) (c__law_take : Got P w K mg base "_law_take" F_law_take 1 sh_law_take) : Got P w K mg base "_law_of" F_law_of 2 sh_law_of :=
  got_of (N := N_law_of) (ps := ["pot", "some"]) (k := 1) Fn hm (by decide +kernel) (fun W => sd_law_of g (Got.cal c__law_take (by omega)) W) (bk_law_of Fn)
theorem sd_law_cells {L : Lw} (g : Gl L.K L.mg) (W : XK) : SndSs L N_law_cells (defScope st_law_cells) (fun _ => true) W (defBody st_law_cells) (exs [] il_law_cells) :=
  (snss_cons (sns_ret (snd_frz (snf_rng1 (snd_bi (b := .max) (sna_cons (snd_con (by decide +kernel) _) (sna_cons (snd_bi (b := .min) (sna_cons (snd_slot (by decide +kernel) _) (sna_cons (snd_bi (b := .len) (sna_cons (snd_slot (by decide +kernel) _) sna_nil rfl) (by decide +kernel) g.z_len rfl) sna_nil rfl) rfl) (by decide +kernel) g.z_min rfl) sna_nil rfl) rfl) (by decide +kernel) g.z_max rfl) (by decide +kernel) g.z_list (by decide +kernel) g.z_range rfl)))
  snss_nil)
theorem bk_law_cells {K : PySem.W.Frag} {f : Addr} {fd : FuncData} (Fn : L2.Fun K "_law_cells" "_law_cells" st_law_cells f fd) : ∀ p ∈ sh_law_cells, BindK fd ["script", "limit"] p.1 p.2 := by
  obtain ⟨oc, od, kV, doc, pm, an, cdv, ct, osl, rfl, lk, hcd⟩ := Fn.ex
  intro p hp
  unfold sh_law_cells at hp
  rcases List.mem_cons.mp hp with rfl | hp
  · intro us ws h1 h2
    match us, ws, h1, h2 with
    | [_, _], [], _, _ => rfl
  exact nomatch hp
theorem got_law_cells {P : Program} {w : World} {K : PySem.W.Frag} {mg : Str → Option Value} {base : Heap} (g : Gl K mg) {f : Addr} {fd : FuncData} (Fn : L2.Fun K "_law_cells" "_law_cells" st_law_cells f fd) (hm : mg "_law_cells" = some (.ref f)) : Got P w K mg base "_law_cells" F_law_cells 1 sh_law_cells :=
  got_of (N := N_law_cells) (ps := ["script", "limit"]) (k := 0) Fn hm (by decide +kernel) (fun W => sd_law_cells g  W) (bk_law_cells Fn)
theorem sd_law_sums {L : Lw} (g : Gl L.K L.mg) (c__law_take : Cal L "_law_take" F_law_take sh_law_take) (c__law_of : Cal L "_law_of" F_law_of sh_law_of) (W : XK) : SndSs L N_law_sums (defScope st_law_sums) (fun _ => true) W (defBody st_law_sums) (exs [F_law_take, F_law_of] il_law_sums) :=
  (snss_cons (sns_par2 (sna_cons (snd_con (by decide +kernel) _) (sna_cons (snd_new (snf_lst sna_nil)) sna_nil rfl) rfl) rfl (by decide +kernel) (by decide +kernel) (by decide) rfl (by decide +kernel) rfl rfl rfl rfl)
  (snss_cons (sns_for (sni_rng1 (snd_bin (snd_con (by decide +kernel) _) (snd_call1 rfl c__law_take (by decide +kernel) (sna_cons (snd_slot (by decide +kernel) _) (sna_cons (snd_con (by decide +kernel) _) sna_nil rfl) rfl) rfl (by decide +kernel) rfl)) (by decide +kernel) g.z_range rfl) (sng_nm (by decide +kernel)) (snss_cons (sns_set (snd_bin (snd_bin (snd_slot (by decide +kernel) _) (snd_con (by decide +kernel) _)) (snd_call1 rfl c__law_take (by decide +kernel) (sna_cons (snd_slot (by decide +kernel) _) (sna_cons (snd_slot (by decide +kernel) _) sna_nil rfl) rfl) rfl (by decide +kernel) rfl)) rfl (by decide +kernel))
    (snss_cons (sns_app (snd_tup (sna_cons (snd_bi (b := .int) (sna_cons (snd_slot (by decide +kernel) _) sna_nil rfl) (by decide +kernel) g.z_int rfl) (sna_cons (snd_bi (b := .int) (sna_cons (snd_call1 rfl c__law_of (by decide +kernel) (sna_cons (snd_slot (by decide +kernel) _) (sna_cons (snd_frz (snf_lst (sna_cons (snd_con (by decide +kernel) _) (sna_cons (snd_call1 rfl c__law_take (by decide +kernel) (sna_cons (snd_slot (by decide +kernel) _) (sna_cons (snd_con (by decide +kernel) _) sna_nil rfl) rfl) rfl (by decide +kernel) rfl) (sna_cons (snd_call1 rfl c__law_take (by decide +kernel) (sna_cons (snd_slot (by decide +kernel) _) (sna_cons (snd_con (by decide +kernel) _) sna_nil rfl) rfl) rfl (by decide +kernel) rfl) sna_nil rfl) rfl) rfl))) sna_nil rfl) rfl) rfl (by decide +kernel) rfl) sna_nil rfl) (by decide +kernel) g.z_int rfl) sna_nil rfl) rfl)) (by decide +kernel) rfl rfl)
    snss_nil)) fun _ _ => rfl)
  (snss_cons (sns_ret (snd_bi (b := .tuple) (sna_cons (snd_slot (by decide +kernel) _) sna_nil rfl) (by decide +kernel) g.z_tuple rfl))
  snss_nil)))
theorem bk_law_sums {K : PySem.W.Frag} {f : Addr} {fd : FuncData} (Fn : L2.Fun K "_law_sums" "_law_sums" st_law_sums f fd) : ∀ p ∈ sh_law_sums, BindK fd ["pot", "wide"] p.1 p.2 := by
  obtain ⟨oc, od, kV, doc, pm, an, cdv, ct, osl, rfl, lk, hcd⟩ := Fn.ex
  intro p hp
  unfold sh_law_sums at hp
  rcases List.mem_cons.mp hp with rfl | hp
  · intro us ws h1 h2
    match us, ws, h1, h2 with
    | [_, _], [], _, _ => rfl
  exact nomatch hp
theorem got_law_sums {P : Program} {w : World} {K : PySem.W.Frag} {mg : Str → Option Value} {base : Heap} (g : Gl K mg) {f : Addr} {fd : FuncData} (Fn : L2.Fun K "_law_sums" "_law_sums" st_law_sums f fd) (hm : mg "_law_sums" = some (.ref f)) (c__law_take : Got P w K mg base "_law_take" F_law_take 1 sh_law_take) (c__law_of : Got P w K mg base "_law_of" F_law_of 2 sh_law_of) : Got P w K mg base "_law_sums" F_law_sums 3 sh_law_sums :=
  got_of (N := N_law_sums) (ps := ["pot", "wide"]) (k := 2) Fn hm (by decide +kernel) (fun W => sd_law_sums g (Got.cal c__law_take (by omega)) (Got.cal c__law_of (by omega)) W) (bk_law_sums Fn)
theorem sd_law_is_int {L : Lw} (g : Gl L.K L.mg) (W : XK) : SndSs L N_law_is_int (defScope st_law_is_int) (fun _ => true) W (defBody st_law_is_int) (exs [] il_law_is_int) :=
  (snss_cons (sns_ret (snd_and (snd_bi (b := .isi) (sna_cons (snd_slot (by decide +kernel) _) (sna_cons (snd_glo (by decide +kernel) (g.g_int _ _ _ _) _) sna_nil rfl) rfl) (by decide +kernel) g.z_isinstance rfl) (snd_and (snd_not (snd_bi (b := .isi) (sna_cons (snd_slot (by decide +kernel) _) (sna_cons (snd_glo (by decide +kernel) (g.g_bool _ _ _ _) _) sna_nil rfl) rfl) (by decide +kernel) g.z_isinstance rfl)) (snd_one (snd_chn (snd_slot (by decide +kernel) _) (snd_slot (by decide +kernel) _) (snd_slot (by decide +kernel) _) rfl)))))
  snss_nil)
theorem bk_law_is_int {K : PySem.W.Frag} {f : Addr} {fd : FuncData} (Fn : L2.Fun K "_law_is_int" "_law_is_int" st_law_is_int f fd) : ∀ p ∈ sh_law_is_int, BindK fd ["value", "least", "most"] p.1 p.2 := by
  obtain ⟨oc, od, kV, doc, pm, an, cdv, ct, osl, rfl, lk, hcd⟩ := Fn.ex
  intro p hp
  unfold sh_law_is_int at hp
  rcases List.mem_cons.mp hp with rfl | hp
  · intro us ws h1 h2
    match us, ws, h1, h2 with
    | [_, _, _], [], _, _ => rfl
  exact nomatch hp
theorem got_law_is_int {P : Program} {w : World} {K : PySem.W.Frag} {mg : Str → Option Value} {base : Heap} (g : Gl K mg) {f : Addr} {fd : FuncData} (Fn : L2.Fun K "_law_is_int" "_law_is_int" st_law_is_int f fd) (hm : mg "_law_is_int" = some (.ref f)) : Got P w K mg base "_law_is_int" F_law_is_int 1 sh_law_is_int :=
  got_of (N := N_law_is_int) (ps := ["value", "least", "most"]) (k := 0) Fn hm (by decide +kernel) (fun W => sd_law_is_int g  W) (bk_law_is_int Fn)
theorem sd_law_scale {L : Lw} (g : Gl L.K L.mg) (c__law_of : Cal L "_law_of" F_law_of sh_law_of) (c__law_take : Cal L "_law_take" F_law_take sh_law_take) (W : XK) : SndSs L N_law_scale (defScope st_law_scale) (fun _ => true) W (defBody st_law_scale) (exs [F_law_of, F_law_take] il_law_scale) :=
  (snss_cons (sns_par2 (sna_cons (snd_new (snf_lst sna_nil)) (sna_cons (snd_con (by decide +kernel) _) sna_nil rfl) rfl) rfl (by decide +kernel) (by decide +kernel) (by decide) rfl (by decide +kernel) rfl rfl rfl rfl)
  (snss_cons (sns_for (sni_rng1 (snd_bin (snd_con (by decide +kernel) _) (snd_call1 rfl c__law_take (by decide +kernel) (sna_cons (snd_slot (by decide +kernel) _) (sna_cons (snd_con (by decide +kernel) _) sna_nil rfl) rfl) rfl (by decide +kernel) rfl)) (by decide +kernel) g.z_range rfl) (sng_nm (by decide +kernel)) (snss_cons (sns_app (snd_tup (sna_cons (snd_bi (b := .int) (sna_cons (snd_slot (by decide +kernel) _) sna_nil rfl) (by decide +kernel) g.z_int rfl) (sna_cons (snd_bi (b := .int) (sna_cons (snd_call1 rfl c__law_of (by decide +kernel) (sna_cons (snd_slot (by decide +kernel) _) (sna_cons (snd_frz (snf_lst (sna_cons (snd_con (by decide +kernel) _) (sna_cons (snd_call1 rfl c__law_take (by decide +kernel) (sna_cons (snd_slot (by decide +kernel) _) (sna_cons (snd_con (by decide +kernel) _) sna_nil rfl) rfl) rfl (by decide +kernel) rfl) (sna_cons (snd_call1 rfl c__law_take (by decide +kernel) (sna_cons (snd_slot (by decide +kernel) _) (sna_cons (snd_con (by decide +kernel) _) sna_nil rfl) rfl) rfl (by decide +kernel) rfl) sna_nil rfl) rfl) rfl))) sna_nil rfl) rfl) rfl (by decide +kernel) rfl) sna_nil rfl) (by decide +kernel) g.z_int rfl) sna_nil rfl) rfl)) (by decide +kernel) rfl rfl)
    (snss_cons (sns_set (snd_bin (snd_bin (snd_slot (by decide +kernel) _) (snd_con (by decide +kernel) _)) (snd_call1 rfl c__law_take (by decide +kernel) (sna_cons (snd_slot (by decide +kernel) _) (sna_cons (snd_slot (by decide +kernel) _) sna_nil rfl) rfl) rfl (by decide +kernel) rfl)) rfl (by decide +kernel))
    snss_nil)) fun _ _ => rfl)
  (snss_cons (sns_set (snd_call1 rfl c__law_take (by decide +kernel) (sna_cons (snd_slot (by decide +kernel) _) (sna_cons (snd_con (by decide +kernel) _) sna_nil rfl) rfl) rfl (by decide +kernel) rfl) rfl (by decide +kernel))
  (snss_cons (sns_if (snt_cmp (snd_slot (by decide +kernel) _) (snd_con (by decide +kernel) _) rfl) (snss_cons (by first | exact sns_lc (own := [("at", 8), ("own", 9), ("each", 10)]) ⟨(sni_enum (snd_slot (by decide +kernel) _) (by decide +kernel) g.z_enumerate rfl), (sng_tp (sngs_cons (sng_nm (by decide +kernel)) (sngs_cons (sng_tp (sngs_cons (sng_nm (by decide +kernel)) (sngs_cons (sng_nm (by decide +kernel)) sngs_nil rfl) rfl) rfl rfl) sngs_nil rfl) rfl) rfl rfl), snc_none, (snd_tup (sna_cons (snd_slot (by decide +kernel) _) (sna_cons (snd_bi (b := .int) (sna_cons (snd_bin (snd_con (by decide +kernel) _) (snd_slot (by decide +kernel) _)) sna_nil rfl) (by decide +kernel) g.z_int rfl) sna_nil rfl) rfl)), (by decide +kernel), by decide, fun _ _ => rfl⟩ (.inl rfl) (by decide +kernel) rfl rfl (by decide +kernel) | exact sns_lc' (snd_new (snf_comp (own := [("at", 8), ("own", 9), ("each", 10)]) ⟨(sni_enum (snd_slot (by decide +kernel) _) (by decide +kernel) g.z_enumerate rfl), (sng_tp (sngs_cons (sng_nm (by decide +kernel)) (sngs_cons (sng_tp (sngs_cons (sng_nm (by decide +kernel)) (sngs_cons (sng_nm (by decide +kernel)) sngs_nil rfl) rfl) rfl rfl) sngs_nil rfl) rfl) rfl rfl), snc_none, (snd_tup (sna_cons (snd_slot (by decide +kernel) _) (sna_cons (snd_bi (b := .int) (sna_cons (snd_bin (snd_con (by decide +kernel) _) (snd_slot (by decide +kernel) _)) sna_nil rfl) (by decide +kernel) g.z_int rfl) sna_nil rfl) rfl)), (by decide +kernel), by decide, fun _ _ => rfl⟩)) (by decide +kernel) rfl (by decide +kernel))
    snss_nil) snss_nil)
  (snss_cons (sns_if (snt_cmp (snd_slot (by decide +kernel) _) (snd_con (by decide +kernel) _) rfl) (snss_cons (sns_set (snd_new (snf_sl (snd_slot (by decide +kernel) _) snp_none (snp_some (snd_con (by decide +kernel) _)))) rfl (by decide +kernel))
    snss_nil) snss_nil)
  (snss_cons (sns_set (snd_call1 rfl c__law_of (by decide +kernel) (sna_cons (snd_slot (by decide +kernel) _) (sna_cons (snd_frz (snf_lst (sna_cons (snd_con (by decide +kernel) _) (sna_cons (snd_con (by decide +kernel) _) (sna_cons (snd_con (by decide +kernel) _) (sna_cons (snd_con (by decide +kernel) _) (sna_cons (snd_call1 rfl c__law_take (by decide +kernel) (sna_cons (snd_slot (by decide +kernel) _) (sna_cons (snd_con (by decide +kernel) _) sna_nil rfl) rfl) rfl (by decide +kernel) rfl) sna_nil rfl) rfl) rfl) rfl) rfl))) sna_nil rfl) rfl) rfl (by decide +kernel) rfl) rfl (by decide +kernel))
  (snss_cons (sns_set (snd_call1 rfl c__law_of (by decide +kernel) (sna_cons (snd_slot (by decide +kernel) _) (sna_cons (snd_frz (snf_lst (sna_cons (snd_con (by decide +kernel) _) (sna_cons (snd_con (by decide +kernel) _) (sna_cons (snd_bi (b := .int) (sna_cons (snd_call1 rfl c__law_take (by decide +kernel) (sna_cons (snd_slot (by decide +kernel) _) (sna_cons (snd_con (by decide +kernel) _) sna_nil rfl) rfl) rfl (by decide +kernel) rfl) sna_nil rfl) (by decide +kernel) g.z_int rfl) (sna_cons (snd_bi (b := .int) (sna_cons (snd_call1 rfl c__law_take (by decide +kernel) (sna_cons (snd_slot (by decide +kernel) _) (sna_cons (snd_con (by decide +kernel) _) sna_nil rfl) rfl) rfl (by decide +kernel) rfl) sna_nil rfl) (by decide +kernel) g.z_int rfl) sna_nil rfl) rfl) rfl) rfl))) sna_nil rfl) rfl) rfl (by decide +kernel) rfl) rfl (by decide +kernel))
  (snss_cons (sns_ret (snd_tup (sna_cons (snd_bi (b := .int) (sna_cons (snd_slot (by decide +kernel) _) sna_nil rfl) (by decide +kernel) g.z_int rfl) (sna_cons (snd_bi (b := .tuple) (sna_cons (snd_slot (by decide +kernel) _) sna_nil rfl) (by decide +kernel) g.z_tuple rfl) (sna_cons (snd_slot (by decide +kernel) _) sna_nil rfl) rfl) rfl)))
  snss_nil))))))))
theorem bk_law_scale {K : PySem.W.Frag} {f : Addr} {fd : FuncData} (Fn : L2.Fun K "_law_scale" "_law_scale" st_law_scale f fd) : ∀ p ∈ sh_law_scale, BindK fd ["pot", "wide"] p.1 p.2 := by
  obtain ⟨oc, od, kV, doc, pm, an, cdv, ct, osl, rfl, lk, hcd⟩ := Fn.ex
  intro p hp
  unfold sh_law_scale at hp
  rcases List.mem_cons.mp hp with rfl | hp
  · intro us ws h1 h2
    match us, ws, h1, h2 with
    | [_, _], [], _, _ => rfl
  exact nomatch hp
theorem got_law_scale {P : Program} {w : World} {K : PySem.W.Frag} {mg : Str → Option Value} {base : Heap} (g : Gl K mg) {f : Addr} {fd : FuncData} (Fn : L2.Fun K "_law_scale" "_law_scale" st_law_scale f fd) (hm : mg "_law_scale" = some (.ref f)) (c__law_of : Got P w K mg base "_law_of" F_law_of 2 sh_law_of) (c__law_take : Got P w K mg base "_law_take" F_law_take 1 sh_law_take) : Got P w K mg base "_law_scale" F_law_scale 3 sh_law_scale :=
  got_of (N := N_law_scale) (ps := ["pot", "wide"]) (k := 2) Fn hm (by decide +kernel) (fun W => sd_law_scale g (Got.cal c__law_of (by omega)) (Got.cal c__law_take (by omega)) W) (bk_law_scale Fn)
theorem sd_law_bent {L : Lw} (g : Gl L.K L.mg) (n : Nat) (c__law_of : Cal L "_law_of" F_law_of sh_law_of) (c__law_take : Cal L "_law_take" F_law_take sh_law_take) (c__law_bent : Cal L "_law_bent" (F_law_bent n) sh_law_bent) (W : XK) : SndSs L N_law_bent (defScope st_law_bent) (fun _ => true) W (defBody st_law_bent) (exs [F_law_of, F_law_take, (F_law_bent n)] il_law_bent) :=
  (snss_cons (sns_if (SndW.pt (snw_and (snt_plain (snd_bi (b := .isi) (sna_cons (snd_slot (by decide +kernel) _) (sna_cons (snd_glo (by decide +kernel) (g.g_tuple _ _ _ _) _) sna_nil rfl) rfl) (by decide +kernel) g.z_isinstance rfl) fun _ _ => rfl) (snw_and (snt_cmp (snd_slot (by decide +kernel) _) (snd_tup sna_nil) rfl) (snw_and1 (snt_cmp (snd_call1 rfl c__law_take (by decide +kernel) (sna_cons (snd_slot (by decide +kernel) _) (sna_cons (snd_con (by decide +kernel) _) sna_nil rfl) rfl) rfl (by decide +kernel) rfl) (snd_con (by decide +kernel) _) rfl))))) (snss_cons (sns_par2 (sna_cons (snd_call1 rfl c__law_take (by decide +kernel) (sna_cons (snd_slot (by decide +kernel) _) (sna_cons (snd_con (by decide +kernel) _) sna_nil rfl) rfl) rfl (by decide +kernel) rfl) (sna_cons (snd_call1 rfl c__law_take (by decide +kernel) (sna_cons (snd_slot (by decide +kernel) _) (sna_cons (snd_bi (b := .len) (sna_cons (snd_slot (by decide +kernel) _) sna_nil rfl) (by decide +kernel) g.z_len rfl) sna_nil rfl) rfl) rfl (by decide +kernel) rfl) sna_nil rfl) rfl) rfl (by decide +kernel) (by decide +kernel) (by decide) rfl (by decide +kernel) rfl rfl rfl rfl)
    (snss_cons (sns_if (snt_cmp (snd_slot (by decide +kernel) _) (snd_con (by decide +kernel) _) rfl) (snss_cons (sns_ret (snd_bin (snd_bin (snd_sl (snd_slot (by decide +kernel) _) snp_none (snp_some (snd_slot (by decide +kernel) _))) (snd_tup (sna_cons (snd_call1 rfl c__law_bent (by decide +kernel) (sna_cons (snd_slot (by decide +kernel) _) (sna_cons (snd_ix (snd_slot (by decide +kernel) _) (snd_slot (by decide +kernel) _) rfl) sna_nil rfl) rfl) rfl (by decide +kernel) rfl) sna_nil rfl))) (snd_sl (snd_slot (by decide +kernel) _) (snp_some (snd_bin (snd_slot (by decide +kernel) _) (snd_con (by decide +kernel) _))) snp_none)))
      snss_nil) snss_nil)
    (snss_cons (sns_ret (snd_ix (snd_frz (snf_lst (sna_cons (snd_bin (snd_sl (snd_slot (by decide +kernel) _) snp_none (snp_some (snd_slot (by decide +kernel) _))) (snd_sl (snd_slot (by decide +kernel) _) (snp_some (snd_bin (snd_slot (by decide +kernel) _) (snd_con (by decide +kernel) _))) snp_none)) (sna_cons (snd_bin (snd_sl (snd_slot (by decide +kernel) _) snp_none (snp_some (snd_bin (snd_slot (by decide +kernel) _) (snd_con (by decide +kernel) _)))) (snd_sl (snd_slot (by decide +kernel) _) (snp_some (snd_slot (by decide +kernel) _)) snp_none)) (sna_cons (snd_rev (snd_slot (by decide +kernel) _)) (sna_cons (snd_frz (snf_bi (b := .list) (snd_slot (by decide +kernel) _) (by decide +kernel) g.z_list rfl)) sna_nil rfl) rfl) rfl) rfl))) (snd_bin (snd_slot (by decide +kernel) _) (snd_con (by decide +kernel) _)) rfl))
    snss_nil))) snss_nil)
  (snss_cons (sns_if (SndW.pt (snw_and (snt_plain (snd_bi (b := .isi) (sna_cons (snd_slot (by decide +kernel) _) (sna_cons (snd_glo (by decide +kernel) (g.g_int _ _ _ _) _) sna_nil rfl) rfl) (by decide +kernel) g.z_isinstance rfl) fun _ _ => rfl) (snw_and1 (snt_not (snt_plain (snd_bi (b := .isi) (sna_cons (snd_slot (by decide +kernel) _) (sna_cons (snd_glo (by decide +kernel) (g.g_bool _ _ _ _) _) sna_nil rfl) rfl) (by decide +kernel) g.z_isinstance rfl) fun _ _ => rfl))))) (snss_cons (sns_ret (snd_call1 rfl c__law_of (by decide +kernel) (sna_cons (snd_slot (by decide +kernel) _) (sna_cons (snd_frz (snf_lst (sna_cons (snd_bin (snd_slot (by decide +kernel) _) (snd_con (by decide +kernel) _)) (sna_cons (snd_bin (snd_slot (by decide +kernel) _) (snd_con (by decide +kernel) _)) (sna_cons (snd_bin (snd_con (by decide +kernel) _) (snd_slot (by decide +kernel) _)) (sna_cons (snd_cmp (snd_slot (by decide +kernel) _) (snd_con (by decide +kernel) _) rfl) (sna_cons (snd_con (by decide +kernel) _) (sna_cons (snd_bi (b := .str) (sna_cons (snd_slot (by decide +kernel) _) sna_nil rfl) (by decide +kernel) g.z_str rfl) (sna_cons (snd_tup (sna_cons (snd_slot (by decide +kernel) _) sna_nil rfl)) (sna_cons (snd_con (by decide +kernel) _) (sna_cons (snd_con (by decide +kernel) _) sna_nil rfl) rfl) rfl) rfl) rfl) rfl) rfl) rfl) rfl))) sna_nil rfl) rfl) rfl (by decide +kernel) rfl))
    snss_nil) snss_nil)
  (snss_cons (sns_ret (snd_call1 rfl c__law_of (by decide +kernel) (sna_cons (snd_slot (by decide +kernel) _) (sna_cons (snd_frz (snf_lst (sna_cons (snd_con (by decide +kernel) _) (sna_cons (snd_con (by decide +kernel) _) (sna_cons (snd_con (by decide +kernel) _) (sna_cons (snd_con (by decide +kernel) _) (sna_cons (snd_con (by decide +kernel) _) (sna_cons (snd_con (by decide +kernel) _) (sna_cons (snd_con (by decide +kernel) _) (sna_cons (snd_con (by decide +kernel) _) (sna_cons (snd_con (by decide +kernel) _) (sna_cons (snd_tup sna_nil) (sna_cons (snd_frz (snf_lst sna_nil)) (sna_cons (snd_con (by decide +kernel) _) (sna_cons (snd_frz snf_dnew) sna_nil rfl) rfl) rfl) rfl) rfl) rfl) rfl) rfl) rfl) rfl) rfl) rfl) rfl))) sna_nil rfl) rfl) rfl (by decide +kernel) rfl))
  snss_nil)))
theorem bk_law_bent {K : PySem.W.Frag} {f : Addr} {fd : FuncData} (Fn : L2.Fun K "_law_bent" "_law_bent" st_law_bent f fd) : ∀ p ∈ sh_law_bent, BindK fd ["pot", "value"] p.1 p.2 := by
  obtain ⟨oc, od, kV, doc, pm, an, cdv, ct, osl, rfl, lk, hcd⟩ := Fn.ex
  intro p hp
  unfold sh_law_bent at hp
  rcases List.mem_cons.mp hp with rfl | hp
  · intro us ws h1 h2
    match us, ws, h1, h2 with
    | [_, _], [], _, _ => rfl
  exact nomatch hp
theorem got_law_bent {P : Program} {w : World} {K : PySem.W.Frag} {mg : Str → Option Value} {base : Heap} (g : Gl K mg) {f : Addr} {fd : FuncData} (Fn : L2.Fun K "_law_bent" "_law_bent" st_law_bent f fd) (hm : mg "_law_bent" = some (.ref f)) (c__law_of : Got P w K mg base "_law_of" F_law_of 2 sh_law_of) (c__law_take : Got P w K mg base "_law_take" F_law_take 1 sh_law_take) : ∀ n : Nat, Got P w K mg base "_law_bent" (F_law_bent n) (2 + n) sh_law_bent
  | 0 => ⟨f, fd, ["pot", "value"], fnG_bad, hm, Fn.kp, bk_law_bent Fn⟩
  | n + 1 => got_of (N := N_law_bent) (ps := ["pot", "value"]) (k := 2 + n) Fn hm (by decide +kernel) (fun W => sd_law_bent g n (Got.cal c__law_of (by omega)) (Got.cal c__law_take (by omega)) (Got.cal (got_law_bent g Fn hm c__law_of c__law_take n) (by omega)) W) (bk_law_bent Fn)
theorem sd_law_least {L : Lw} (g : Gl L.K L.mg) (W : XK) : SndSs L N_law_least (defScope st_law_least) (fun _ => true) W (defBody st_law_least) (exs [] il_law_least) :=
  (snss_cons (sns_set (snd_new (snf_lst (sna_cons (snd_con (by decide +kernel) _) sna_nil rfl))) rfl (by decide +kernel))
  (snss_cons (sns_for (sni_rng2 (snd_con (by decide +kernel) _) (snd_bin (snd_slot (by decide +kernel) _) (snd_con (by decide +kernel) _)) (by decide +kernel) g.z_range rfl rfl) (sng_nm (by decide +kernel)) (snss_cons (sns_app (snd_bi (b := .min) (sna_cons (snd_frz (snf_comp (own := [("own", 4), ("its", 5)]) ⟨(sni_seq (snd_slot (by decide +kernel) _)), (sng_tp (sngs_cons (sng_nm (by decide +kernel)) (sngs_cons (sng_nm (by decide +kernel)) sngs_nil rfl) rfl) rfl rfl), snc_none, (snd_bin (snd_slot (by decide +kernel) _) (snd_ix (snd_slot (by decide +kernel) _) (snd_bi (b := .max) (sna_cons (snd_con (by decide +kernel) _) (sna_cons (snd_bin (snd_slot (by decide +kernel) _) (snd_slot (by decide +kernel) _)) sna_nil rfl) rfl) (by decide +kernel) g.z_max rfl) rfl)), (by decide +kernel), by decide, fun _ _ => rfl⟩)) sna_nil rfl) (by decide +kernel) g.z_min rfl) (by decide +kernel) rfl rfl)
    snss_nil) fun _ _ => rfl)
  (snss_cons (sns_ret (snd_slot (by decide +kernel) _))
  snss_nil)))
theorem bk_law_least {K : PySem.W.Frag} {f : Addr} {fd : FuncData} (Fn : L2.Fun K "_law_least" "_law_least" st_law_least f fd) : ∀ p ∈ sh_law_least, BindK fd ["sums", "days"] p.1 p.2 := by
  obtain ⟨oc, od, kV, doc, pm, an, cdv, ct, osl, rfl, lk, hcd⟩ := Fn.ex
  intro p hp
  unfold sh_law_least at hp
  rcases List.mem_cons.mp hp with rfl | hp
  · intro us ws h1 h2
    match us, ws, h1, h2 with
    | [_, _], [], _, _ => rfl
  exact nomatch hp
theorem got_law_least {P : Program} {w : World} {K : PySem.W.Frag} {mg : Str → Option Value} {base : Heap} (g : Gl K mg) {f : Addr} {fd : FuncData} (Fn : L2.Fun K "_law_least" "_law_least" st_law_least f fd) (hm : mg "_law_least" = some (.ref f)) : Got P w K mg base "_law_least" F_law_least 1 sh_law_least :=
  got_of (N := N_law_least) (ps := ["sums", "days"]) (k := 0) Fn hm (by decide +kernel) (fun W => sd_law_least g  W) (bk_law_least Fn)
theorem sd_law_is_told {L : Lw} (g : Gl L.K L.mg) (c__law_is_int : Cal L "_law_is_int" F_law_is_int sh_law_is_int) (W : XK) : SndSs L N_law_is_told (defScope st_law_is_told) (fun _ => true) W (defBody st_law_is_told) (exs [F_law_is_int] il_law_is_told) :=
  (snss_cons (sns_if (SndW.pt (snw_or (snt_not (snt_plain (snd_bi (b := .isi) (sna_cons (snd_slot (by decide +kernel) _) (sna_cons (snd_glo (by decide +kernel) (g.g_tuple _ _ _ _) _) sna_nil rfl) rfl) (by decide +kernel) g.z_isinstance rfl) fun _ _ => rfl)) (snw_or (snt_cmp (snd_bi (b := .len) (sna_cons (snd_slot (by decide +kernel) _) sna_nil rfl) (by decide +kernel) g.z_len rfl) (snd_con (by decide +kernel) _) rfl) (snw_or1 (snt_cmp (snd_bi (b := .repr) (sna_cons (snd_ix (snd_slot (by decide +kernel) _) (snd_con (by decide +kernel) _) rfl) sna_nil rfl) (by decide +kernel) g.z_repr rfl) (snd_bi (b := .repr) (sna_cons (snd_slot (by decide +kernel) _) sna_nil rfl) (by decide +kernel) g.z_repr rfl) rfl))))) (snss_cons (sns_ret (snd_con (by decide +kernel) _))
    snss_nil) snss_nil)
  (snss_cons (sns_set (snd_ix (snd_slot (by decide +kernel) _) (snd_con (by decide +kernel) _) rfl) rfl (by decide +kernel))
  (snss_cons (sns_if (SndW.pt (snw_or (snt_not (snt_plain (snd_bi (b := .isi) (sna_cons (snd_slot (by decide +kernel) _) (sna_cons (snd_glo (by decide +kernel) (g.g_tuple _ _ _ _) _) sna_nil rfl) rfl) (by decide +kernel) g.z_isinstance rfl) fun _ _ => rfl)) (snw_or1 (snt_not (snt_plain (snd_bi (b := .all) (sna_cons (snd_frz (snf_comp (own := [("at", 5)]) ⟨(sni_seq (snd_slot (by decide +kernel) _)), (sng_nm (by decide +kernel)), snc_none, (snd_call1 rfl c__law_is_int (by decide +kernel) (sna_cons (snd_slot (by decide +kernel) _) (sna_cons (snd_con (by decide +kernel) _) (sna_cons (snd_bin (snd_bi (b := .len) (sna_cons (snd_slot (by decide +kernel) _) sna_nil rfl) (by decide +kernel) g.z_len rfl) (snd_con (by decide +kernel) _)) sna_nil rfl) rfl) rfl) rfl (by decide +kernel) rfl), (by decide +kernel), by decide, fun _ _ => rfl⟩)) sna_nil rfl) (by decide +kernel) g.z_all rfl) fun _ _ => rfl))))) (snss_cons (sns_ret (snd_con (by decide +kernel) _))
    snss_nil) snss_nil)
  (snss_cons (sns_if (snt_cmp (snd_slot (by decide +kernel) _) (snd_con (by decide +kernel) _) rfl) (snss_cons (sns_ret (snd_cmp (snd_slot (by decide +kernel) _) (snd_tup sna_nil) rfl))
    snss_nil) snss_nil)
  (snss_cons (sns_if (SndW.pt (snw_or (snt_cmp (snd_frz (snf_bi (b := .list) (snd_slot (by decide +kernel) _) (by decide +kernel) g.z_list rfl)) (snd_frz (snf_bi (b := .sorted) (snd_slot (by decide +kernel) _) (by decide +kernel) g.z_sorted rfl)) rfl) (snw_or1 (snt_cmp (snd_bi (b := .sum) (sna_cons (snd_frz (snf_comp (own := [("at", 5)]) ⟨(sni_seq (snd_slot (by decide +kernel) _)), (sng_nm (by decide +kernel)), snc_none, (snd_ix (snd_ix (snd_slot (by decide +kernel) _) (snd_slot (by decide +kernel) _) rfl) (snd_con (by decide +kernel) _) rfl), (by decide +kernel), by decide, fun _ _ => rfl⟩)) sna_nil rfl) (by decide +kernel) g.z_sum rfl) (snd_slot (by decide +kernel) _) rfl)))) (snss_cons (sns_ret (snd_con (by decide +kernel) _))
    snss_nil) snss_nil)
  (snss_cons (sns_ret (snd_cmp (snd_bi (b := .sum) (sna_cons (snd_frz (snf_comp (own := [("at", 5)]) ⟨(sni_seq (snd_slot (by decide +kernel) _)), (sng_nm (by decide +kernel)), snc_none, (snd_ix (snd_ix (snd_slot (by decide +kernel) _) (snd_slot (by decide +kernel) _) rfl) (snd_con (by decide +kernel) _) rfl), (by decide +kernel), by decide, fun _ _ => rfl⟩)) sna_nil rfl) (by decide +kernel) g.z_sum rfl) (snd_slot (by decide +kernel) _) rfl))
  snss_nil))))))
theorem bk_law_is_told {K : PySem.W.Frag} {f : Addr} {fd : FuncData} (Fn : L2.Fun K "_law_is_told" "_law_is_told" st_law_is_told f fd) : ∀ p ∈ sh_law_is_told, BindK fd ["sums", "days", "number", "value"] p.1 p.2 := by
  obtain ⟨oc, od, kV, doc, pm, an, cdv, ct, osl, rfl, lk, hcd⟩ := Fn.ex
  intro p hp
  unfold sh_law_is_told at hp
  rcases List.mem_cons.mp hp with rfl | hp
  · intro us ws h1 h2
    match us, ws, h1, h2 with
    | [_, _, _, _], [], _, _ => rfl
  exact nomatch hp
theorem got_law_is_told {P : Program} {w : World} {K : PySem.W.Frag} {mg : Str → Option Value} {base : Heap} (g : Gl K mg) {f : Addr} {fd : FuncData} (Fn : L2.Fun K "_law_is_told" "_law_is_told" st_law_is_told f fd) (hm : mg "_law_is_told" = some (.ref f)) (c__law_is_int : Got P w K mg base "_law_is_int" F_law_is_int 1 sh_law_is_int) : Got P w K mg base "_law_is_told" F_law_is_told 2 sh_law_is_told :=
  got_of (N := N_law_is_told) (ps := ["sums", "days", "number", "value"]) (k := 1) Fn hm (by decide +kernel) (fun W => sd_law_is_told g (Got.cal c__law_is_int (by omega)) W) (bk_law_is_told Fn)
theorem sd_law_right {L : Lw} (g : Gl L.K L.mg) (c_below : Cal L "below" F_below sh_below) (c_least_cut : Cal L "least_cut" F_least_cut sh_least_cut) (c_fine : Cal L "fine" F_fine sh_fine) (c__law_take : Cal L "_law_take" F_law_take sh_law_take) (c__law_scale : Cal L "_law_scale" F_law_scale sh_law_scale) (c_shows_below : Cal L "shows_below" F_shows_below sh_shows_below) (c__law_is_told : Cal L "_law_is_told" F_law_is_told sh_law_is_told) (c__law_bent : Cal L "_law_bent" (F_law_bent 4) sh_law_bent) (c__law_least : Cal L "_law_least" F_law_least sh_law_least) (c__law_sums : Cal L "_law_sums" F_law_sums sh_law_sums) (c__law_of : Cal L "_law_of" F_law_of sh_law_of) (W : XK) : SndSs L N_law_right (defScope st_law_right) (fun _ => true) W (defBody st_law_right) (exs [F_below, F_least_cut, F_fine, F_law_take, F_law_scale, F_shows_below, F_law_is_told, (F_law_bent 4), F_law_least, F_law_sums, F_law_of] il_law_right) :=
  (snss_cons (sns_set (snd_call1 rfl c__law_sums (by decide +kernel) (sna_cons (snd_slot (by decide +kernel) _) (sna_cons (snd_call1 rfl c__law_of (by decide +kernel) (sna_cons (snd_slot (by decide +kernel) _) (sna_cons (snd_frz (snf_lst (sna_cons (snd_con (by decide +kernel) _) (sna_cons (snd_con (by decide +kernel) _) (sna_cons (snd_con (by decide +kernel) _) sna_nil rfl) rfl) rfl))) sna_nil rfl) rfl) rfl (by decide +kernel) rfl) sna_nil rfl) rfl) rfl (by decide +kernel) rfl) rfl (by decide +kernel))
  (snss_cons (sns_set (snd_call1 rfl c__law_least (by decide +kernel) (sna_cons (snd_slot (by decide +kernel) _) (sna_cons (snd_con (by decide +kernel) _) sna_nil rfl) rfl) rfl (by decide +kernel) rfl) rfl (by decide +kernel))
  (snss_cons (sns_for (sni_rng1 (snd_con (by decide +kernel) _) (by decide +kernel) g.z_range rfl) (sng_nm (by decide +kernel)) (snss_cons (sns_par2 (sna_cons (snd_bi (b := .int) (sna_cons (snd_call1 rfl c__law_take (by decide +kernel) (sna_cons (snd_slot (by decide +kernel) _) (sna_cons (snd_con (by decide +kernel) _) sna_nil rfl) rfl) rfl (by decide +kernel) rfl) sna_nil rfl) (by decide +kernel) g.z_int rfl) (sna_cons (snd_bi (b := .int) (sna_cons (snd_call1 rfl c__law_take (by decide +kernel) (sna_cons (snd_slot (by decide +kernel) _) (sna_cons (snd_con (by decide +kernel) _) sna_nil rfl) rfl) rfl (by decide +kernel) rfl) sna_nil rfl) (by decide +kernel) g.z_int rfl) sna_nil rfl) rfl) rfl (by decide +kernel) (by decide +kernel) (by decide) rfl (by decide +kernel) rfl rfl rfl rfl)
    (snss_cons (sns_set (snd_callK0 (kw := ("sums", _, _)) (kws := [("days", _, _)]) rfl c_below (by decide +kernel) (snk_cons (snd_slot (by decide +kernel) _) (snk_cons (snd_slot (by decide +kernel) _) snk_nil)) (by decide +kernel) rfl) rfl (by decide +kernel))
    (snss_cons (sns_if (snt_not (snt_plain (snd_call1 rfl c__law_is_told (by decide +kernel) (sna_cons (snd_slot (by decide +kernel) _) (sna_cons (snd_slot (by decide +kernel) _) (sna_cons (snd_ix (snd_slot (by decide +kernel) _) (snd_slot (by decide +kernel) _) rfl) (sna_cons (snd_slot (by decide +kernel) _) sna_nil rfl) rfl) rfl) rfl) rfl (by decide +kernel) rfl) fun _ _ => rfl)) (snss_cons (sns_ret (snd_con (by decide +kernel) _))
      snss_nil) snss_nil)
    (snss_cons (sns_if (SndW.pt (snw_or (snt_cmp (snd_ix (snd_call1 rfl c_below (by decide +kernel) (sna_cons (snd_slot (by decide +kernel) _) (sna_cons (snd_bin (snd_slot (by decide +kernel) _) (snd_con (by decide +kernel) _)) sna_nil rfl) rfl) rfl (by decide +kernel) rfl) (snd_con (by decide +kernel) _) rfl) (snd_ix (snd_slot (by decide +kernel) _) (snd_con (by decide +kernel) _) rfl) rfl) (snw_or1 (snt_cmp (snd_ix (snd_call1 rfl c_below (by decide +kernel) (sna_cons (snd_slot (by decide +kernel) _) (sna_cons (snd_bin (snd_slot (by decide +kernel) _) (snd_slot (by decide +kernel) _)) sna_nil rfl) rfl) rfl (by decide +kernel) rfl) (snd_con (by decide +kernel) _) rfl) (snd_bin (snd_ix (snd_slot (by decide +kernel) _) (snd_con (by decide +kernel) _) rfl) (snd_ix (snd_call1 rfl c_below (by decide +kernel) (sna_cons (snd_slot (by decide +kernel) _) (sna_cons (snd_slot (by decide +kernel) _) sna_nil rfl) rfl) rfl (by decide +kernel) rfl) (snd_con (by decide +kernel) _) rfl)) rfl)))) (snss_cons (sns_ret (snd_con (by decide +kernel) _))
      snss_nil) snss_nil)
    (snss_cons (sns_set (snd_new (snf_lst (sna_cons (snd_slot (by decide +kernel) _) (sna_cons (snd_rev (snd_slot (by decide +kernel) _)) (sna_cons (snd_frz (snf_bi (b := .list) (snd_slot (by decide +kernel) _) (by decide +kernel) g.z_list rfl)) (sna_cons (snd_tup (sna_cons (snd_bin (snd_ix (snd_slot (by decide +kernel) _) (snd_con (by decide +kernel) _) rfl) (snd_con (by decide +kernel) _)) (sna_cons (snd_ix (snd_slot (by decide +kernel) _) (snd_con (by decide +kernel) _) rfl) sna_nil rfl) rfl)) (sna_cons (snd_tup (sna_cons (snd_ix (snd_slot (by decide +kernel) _) (snd_con (by decide +kernel) _) rfl) (sna_cons (snd_rev (snd_ix (snd_slot (by decide +kernel) _) (snd_con (by decide +kernel) _) rfl)) sna_nil rfl) rfl)) (sna_cons (snd_con (by decide +kernel) _) sna_nil rfl) rfl) rfl) rfl) rfl) rfl))) rfl (by decide +kernel))
    (snss_cons (sns_app (snd_tup (sna_cons (snd_ix (snd_slot (by decide +kernel) _) (snd_con (by decide +kernel) _) rfl) (sna_cons (snd_sl (snd_ix (snd_slot (by decide +kernel) _) (snd_con (by decide +kernel) _) rfl) (snp_some (snd_con (by decide +kernel) _)) snp_none) sna_nil rfl) rfl)) (by decide +kernel) rfl rfl)
    (snss_cons (sns_for (sni_rng1 (snd_con (by decide +kernel) _) (by decide +kernel) g.z_range rfl) (sng_nm (by decide +kernel)) (snss_cons (sns_set (snd_bi (b := .tuple) (sna_cons (snd_frz (snf_bi (b := .sorted) (snd_frz (snf_comp (own := [("part", 17)]) ⟨(sni_rng1 (snd_bin (snd_con (by decide +kernel) _) (snd_call1 rfl c__law_take (by decide +kernel) (sna_cons (snd_slot (by decide +kernel) _) (sna_cons (snd_con (by decide +kernel) _) sna_nil rfl) rfl) rfl (by decide +kernel) rfl)) (by decide +kernel) g.z_range rfl), (sng_nm (by decide +kernel)), snc_none, (snd_bi (b := .int) (sna_cons (snd_call1 rfl c__law_take (by decide +kernel) (sna_cons (snd_slot (by decide +kernel) _) (sna_cons (snd_bi (b := .len) (sna_cons (snd_slot (by decide +kernel) _) sna_nil rfl) (by decide +kernel) g.z_len rfl) sna_nil rfl) rfl) rfl (by decide +kernel) rfl) sna_nil rfl) (by decide +kernel) g.z_int rfl), (by decide +kernel), by decide, fun _ _ => rfl⟩)) (by decide +kernel) g.z_sorted rfl)) sna_nil rfl) (by decide +kernel) g.z_tuple rfl) rfl (by decide +kernel))
      (snss_cons (sns_ext (snd_frz (snf_lst (sna_cons (snd_tup (sna_cons (snd_ix (snd_slot (by decide +kernel) _) (snd_con (by decide +kernel) _) rfl) (sna_cons (snd_slot (by decide +kernel) _) sna_nil rfl) rfl)) (sna_cons (snd_call1 rfl c__law_bent (by decide +kernel) (sna_cons (snd_slot (by decide +kernel) _) (sna_cons (snd_slot (by decide +kernel) _) sna_nil rfl) rfl) rfl (by decide +kernel) rfl) sna_nil rfl) rfl))) (by decide +kernel) rfl rfl)
      snss_nil)) fun _ _ => rfl)
    (snss_cons (sns_for (sni_seq (snd_slot (by decide +kernel) _)) (sng_nm (by decide +kernel)) (snss_cons (sns_set (snd_call1 rfl c__law_is_told (by decide +kernel) (sna_cons (snd_slot (by decide +kernel) _) (sna_cons (snd_slot (by decide +kernel) _) (sna_cons (snd_ix (snd_slot (by decide +kernel) _) (snd_slot (by decide +kernel) _) rfl) (sna_cons (snd_slot (by decide +kernel) _) sna_nil rfl) rfl) rfl) rfl) rfl (by decide +kernel) rfl) rfl (by decide +kernel))
      (snss_cons (sns_if (snt_cmp (snd_bi (b := .repr) (sna_cons (snd_callK0 (kw := ("sums", _, _)) (kws := [("days", _, _), ("value", _, _)]) rfl c_shows_below (by decide +kernel) (snk_cons (snd_slot (by decide +kernel) _) (snk_cons (snd_slot (by decide +kernel) _) (snk_cons (snd_slot (by decide +kernel) _) snk_nil))) (by decide +kernel) rfl) sna_nil rfl) (by decide +kernel) g.z_repr rfl) (snd_bi (b := .repr) (sna_cons (snd_slot (by decide +kernel) _) sna_nil rfl) (by decide +kernel) g.z_repr rfl) rfl) (snss_cons (sns_ret (snd_con (by decide +kernel) _))
        snss_nil) snss_nil)
      snss_nil)) fun _ _ => rfl)
    snss_nil)))))))) fun _ _ => rfl)
  (snss_cons (sns_if (snt_not (snt_plain (snd_bi (b := .all) (sna_cons (snd_frz (snf_comp (own := [("own", 15), ("its", 16)]) ⟨(sni_seq (snd_slot (by decide +kernel) _)), (sng_tp (sngs_cons (sng_nm (by decide +kernel)) (sngs_cons (sng_nm (by decide +kernel)) sngs_nil rfl) rfl) rfl rfl), snc_none, (snd_cmp (snd_ix (snd_call1 rfl c_below (by decide +kernel) (sna_cons (snd_slot (by decide +kernel) _) (sna_cons (snd_slot (by decide +kernel) _) sna_nil rfl) rfl) rfl (by decide +kernel) rfl) (snd_con (by decide +kernel) _) rfl) (snd_slot (by decide +kernel) _) rfl), (by decide +kernel), by decide, fun _ _ => rfl⟩)) sna_nil rfl) (by decide +kernel) g.z_all rfl) fun _ _ => rfl)) (snss_cons (sns_ret (snd_con (by decide +kernel) _))
    snss_nil) snss_nil)
  (snss_cons (sns_tup (snd_tup (sna_cons (snd_call1 rfl c__law_scale (by decide +kernel) (sna_cons (snd_slot (by decide +kernel) _) (sna_cons (snd_con (by decide +kernel) _) sna_nil rfl) rfl) rfl (by decide +kernel) rfl) (sna_cons (snd_bi (b := .int) (sna_cons (snd_bin (snd_con (by decide +kernel) _) (snd_call1 rfl c__law_take (by decide +kernel) (sna_cons (snd_slot (by decide +kernel) _) (sna_cons (snd_con (by decide +kernel) _) sna_nil rfl) rfl) rfl (by decide +kernel) rfl)) sna_nil rfl) (by decide +kernel) g.z_int rfl) sna_nil rfl) rfl)) (sng_tp (sngs_cons (sng_nm (by decide +kernel)) (sngs_cons (sng_nm (by decide +kernel)) sngs_nil rfl) rfl) rfl rfl) rfl (fun _ C => sw_cell C (by decide +kernel)))
  (snss_cons (sns_set (snd_bi (b := .tuple) (sna_cons (snd_frz (snf_comp (own := [("days", 11)]) ⟨(sni_rng2 (snd_con (by decide +kernel) _) (snd_bin (snd_slot (by decide +kernel) _) (snd_con (by decide +kernel) _)) (by decide +kernel) g.z_range rfl rfl), (sng_nm (by decide +kernel)), snc_none, (snd_tup (sna_cons (snd_slot (by decide +kernel) _) (sna_cons (snd_call1 rfl c_fine (by decide +kernel) (sna_cons (snd_slot (by decide +kernel) _) (sna_cons (snd_slot (by decide +kernel) _) sna_nil rfl) rfl) rfl (by decide +kernel) rfl) sna_nil rfl) rfl)), (by decide +kernel), by decide, fun _ _ => rfl⟩)) sna_nil rfl) (by decide +kernel) g.z_tuple rfl) rfl (by decide +kernel))
  (snss_cons (sns_ret (snd_cmp (snd_ix (snd_call1 rfl c_below (by decide +kernel) (sna_cons (snd_slot (by decide +kernel) _) (sna_cons (snd_slot (by decide +kernel) _) sna_nil rfl) rfl) rfl (by decide +kernel) rfl) (snd_con (by decide +kernel) _) rfl) (snd_ix (snd_call1 rfl c_least_cut (by decide +kernel) (sna_cons (snd_slot (by decide +kernel) _) (sna_cons (snd_slot (by decide +kernel) _) sna_nil rfl) rfl) rfl (by decide +kernel) rfl) (snd_con (by decide +kernel) _) rfl) rfl))
  snss_nil)))))))
theorem bk_law_right {K : PySem.W.Frag} {f : Addr} {fd : FuncData} (Fn : L2.Fun K "_law_right" "_law_right" st_law_right f fd) : ∀ p ∈ sh_law_right, BindK fd ["pot"] p.1 p.2 := by
  obtain ⟨oc, od, kV, doc, pm, an, cdv, ct, osl, rfl, lk, hcd⟩ := Fn.ex
  intro p hp
  unfold sh_law_right at hp
  rcases List.mem_cons.mp hp with rfl | hp
  · intro us ws h1 h2
    match us, ws, h1, h2 with
    | [_], [], _, _ => rfl
  exact nomatch hp
theorem got_law_right {P : Program} {w : World} {K : PySem.W.Frag} {mg : Str → Option Value} {base : Heap} (g : Gl K mg) {f : Addr} {fd : FuncData} (Fn : L2.Fun K "_law_right" "_law_right" st_law_right f fd) (hm : mg "_law_right" = some (.ref f)) (c_below : Got P w K mg base "below" F_below 5 sh_below) (c_least_cut : Got P w K mg base "least_cut" F_least_cut 6 sh_least_cut) (c_fine : Got P w K mg base "fine" F_fine 6 sh_fine) (c__law_take : Got P w K mg base "_law_take" F_law_take 1 sh_law_take) (c__law_scale : Got P w K mg base "_law_scale" F_law_scale 3 sh_law_scale) (c_shows_below : Got P w K mg base "shows_below" F_shows_below 5 sh_shows_below) (c__law_is_told : Got P w K mg base "_law_is_told" F_law_is_told 2 sh_law_is_told) (c__law_bent : Got P w K mg base "_law_bent" (F_law_bent 4) 6 sh_law_bent) (c__law_least : Got P w K mg base "_law_least" F_law_least 1 sh_law_least) (c__law_sums : Got P w K mg base "_law_sums" F_law_sums 3 sh_law_sums) (c__law_of : Got P w K mg base "_law_of" F_law_of 2 sh_law_of) : Got P w K mg base "_law_right" F_law_right 7 sh_law_right :=
  got_of (N := N_law_right) (ps := ["pot"]) (k := 6) Fn hm (by decide +kernel) (fun W => sd_law_right g (Got.cal c_below (by omega)) (Got.cal c_least_cut (by omega)) (Got.cal c_fine (by omega)) (Got.cal c__law_take (by omega)) (Got.cal c__law_scale (by omega)) (Got.cal c_shows_below (by omega)) (Got.cal c__law_is_told (by omega)) (Got.cal c__law_bent (by omega)) (Got.cal c__law_least (by omega)) (Got.cal c__law_sums (by omega)) (Got.cal c__law_of (by omega)) W) (bk_law_right Fn)
theorem sd_law {L : Lw} (g : Gl L.K L.mg) (c__law_cells : Cal L "_law_cells" F_law_cells sh_law_cells) (c__law_right : Cal L "_law_right" F_law_right sh_law_right) (c__law_pot : Cal L "_law_pot" F_law_pot sh_law_pot) (W : XK) : SndSs L N_law (defScope st_law) (fun _ => true) W (defBody st_law) (exs [F_law_cells, F_law_right, F_law_pot] il_law) :=
  (snss_cons (sns_for (sni_seq (snd_call1 rfl c__law_cells (by decide +kernel) (sna_cons (snd_slot (by decide +kernel) _) (sna_cons (snd_con (by decide +kernel) _) sna_nil rfl) rfl) rfl (by decide +kernel) rfl)) (sng_nm (by decide +kernel)) (snss_cons (sns_set (snd_call1 rfl c__law_pot (by decide +kernel) (sna_cons (snd_slot (by decide +kernel) _) (sna_cons (snd_slot (by decide +kernel) _) sna_nil rfl) rfl) rfl (by decide +kernel) rfl) rfl (by decide +kernel))
    (snss_cons (sns_if (snt_not (snt_plain (snd_bi (b := .all) (sna_cons (snd_frz (snf_comp (own := [("lap", 3)]) ⟨(sni_rng1 (snd_con (by decide +kernel) _) (by decide +kernel) g.z_range rfl), (sng_nm (by decide +kernel)), snc_none, (snd_call1 rfl c__law_right (by decide +kernel) (sna_cons (snd_slot (by decide +kernel) _) sna_nil rfl) rfl (by decide +kernel) rfl), (by decide +kernel), by decide, fun _ _ => rfl⟩)) sna_nil rfl) (by decide +kernel) g.z_all rfl) fun _ _ => rfl)) (snss_cons (sns_ret (snd_con (by decide +kernel) _))
      snss_nil) snss_nil)
    snss_nil)) fun _ _ => rfl)
  (snss_cons (sns_ret (snd_con (by decide +kernel) _))
  snss_nil))
theorem bk_law {K : PySem.W.Frag} {f : Addr} {fd : FuncData} (Fn : L2.Fun K "law" "law" st_law f fd) : ∀ p ∈ sh_law, BindK fd ["script"] p.1 p.2 := by
  obtain ⟨oc, od, kV, doc, pm, an, cdv, ct, osl, rfl, lk, hcd⟩ := Fn.ex
  intro p hp
  unfold sh_law at hp
  exact nomatch hp
theorem got_law {P : Program} {w : World} {K : PySem.W.Frag} {mg : Str → Option Value} {base : Heap} (g : Gl K mg) {f : Addr} {fd : FuncData} (Fn : L2.Fun K "law" "law" st_law f fd) (hm : mg "law" = some (.ref f)) (c__law_cells : Got P w K mg base "_law_cells" F_law_cells 1 sh_law_cells) (c__law_right : Got P w K mg base "_law_right" F_law_right 7 sh_law_right) (c__law_pot : Got P w K mg base "_law_pot" F_law_pot 1 sh_law_pot) : Got P w K mg base "law" F_law 8 sh_law :=
  got_of (N := N_law) (ps := ["script"]) (k := 7) Fn hm (by decide +kernel) (fun W => sd_law g (Got.cal c__law_cells (by omega)) (Got.cal c__law_right (by omega)) (Got.cal c__law_pot (by omega)) W) (bk_law Fn)
theorem all_law (main : ∀ ns : List Int, ns.length ≤ 63 → ∃ φ, F_law [.v (.rls (ns.map D.int))] [] = .ok (.v (.bl true)) φ) {w : World} {K : PySem.W.Frag} {h : Heap} {mg : Str → Option Value} {fa : Addr} (X : K.In h) (G : h.Ns mainGlobals mg) (hfa : mg "law" = some (.ref fa))
    {od0 an0 : Option Addr} {sl0 : Array (Option Value)} {oc0 kV0 dc0 pm0 cd0 ct0 : Value} {f0 : Addr}
    (a0 : PySem.W.nsIn K mainGlobals "is_integer" = some (some (.ref f0)))
    (l0 : K.lookup f0 = some ⟨oc0, od0, .func (PySem.W.fnOf "is_integer" "is_integer" (defArgs st_is_integer) (defBody st_is_integer) (defScope st_is_integer) .none kV0 dc0 pm0 an0 cd0 ct0), sl0⟩)
    (e0 : PySem.W.codeIn K cd0 "is_integer" = true) (k0 : PySem.W.keepIn K (.ref f0) = true)
    {od1 an1 : Option Addr} {sl1 : Array (Option Value)} {oc1 kV1 dc1 pm1 cd1 ct1 : Value} {f1 : Addr}
    (a1 : PySem.W.nsIn K mainGlobals "is_between" = some (some (.ref f1)))
    (l1 : K.lookup f1 = some ⟨oc1, od1, .func (PySem.W.fnOf "is_between" "is_between" (defArgs st_is_between) (defBody st_is_between) (defScope st_is_between) .none kV1 dc1 pm1 an1 cd1 ct1), sl1⟩)
    (e1 : PySem.W.codeIn K cd1 "is_between" = true) (k1 : PySem.W.keepIn K (.ref f1) = true)
    {od2 an2 : Option Addr} {sl2 : Array (Option Value)} {oc2 kV2 dc2 pm2 cd2 ct2 : Value} {f2 : Addr}
    (a2 : PySem.W.nsIn K mainGlobals "are_steps" = some (some (.ref f2)))
    (l2 : K.lookup f2 = some ⟨oc2, od2, .func (PySem.W.fnOf "are_steps" "are_steps" (defArgs st_are_steps) (defBody st_are_steps) (defScope st_are_steps) .none kV2 dc2 pm2 an2 cd2 ct2), sl2⟩)
    (e2 : PySem.W.codeIn K cd2 "are_steps" = true) (k2 : PySem.W.keepIn K (.ref f2) = true)
    {od3 an3 : Option Addr} {sl3 : Array (Option Value)} {oc3 kV3 dc3 pm3 cd3 ct3 : Value} {f3 : Addr}
    (a3 : PySem.W.nsIn K mainGlobals "is_scale" = some (some (.ref f3)))
    (l3 : K.lookup f3 = some ⟨oc3, od3, .func (PySem.W.fnOf "is_scale" "is_scale" (defArgs st_is_scale) (defBody st_is_scale) (defScope st_is_scale) .none kV3 dc3 pm3 an3 cd3 ct3), sl3⟩)
    (e3 : PySem.W.codeIn K cd3 "is_scale" = true) (k3 : PySem.W.keepIn K (.ref f3) = true)
    {od4 an4 : Option Addr} {sl4 : Array (Option Value)} {oc4 kV4 dc4 pm4 cd4 ct4 : Value} {f4 : Addr}
    (a4 : PySem.W.nsIn K mainGlobals "check_scale" = some (some (.ref f4)))
    (l4 : K.lookup f4 = some ⟨oc4, od4, .func (PySem.W.fnOf "check_scale" "check_scale" (defArgs st_check_scale) (defBody st_check_scale) (defScope st_check_scale) .none kV4 dc4 pm4 an4 cd4 ct4), sl4⟩)
    (e4 : PySem.W.codeIn K cd4 "check_scale" = true) (k4 : PySem.W.keepIn K (.ref f4) = true)
    {od5 an5 : Option Addr} {sl5 : Array (Option Value)} {oc5 kV5 dc5 pm5 cd5 ct5 : Value} {f5 : Addr}
    (a5 : PySem.W.nsIn K mainGlobals "check_days" = some (some (.ref f5)))
    (l5 : K.lookup f5 = some ⟨oc5, od5, .func (PySem.W.fnOf "check_days" "check_days" (defArgs st_check_days) (defBody st_check_days) (defScope st_check_days) .none kV5 dc5 pm5 an5 cd5 ct5), sl5⟩)
    (e5 : PySem.W.codeIn K cd5 "check_days" = true) (k5 : PySem.W.keepIn K (.ref f5) = true)
    {od6 an6 : Option Addr} {sl6 : Array (Option Value)} {oc6 kV6 dc6 pm6 cd6 ct6 : Value} {f6 : Addr}
    (a6 : PySem.W.nsIn K mainGlobals "costs_by" = some (some (.ref f6)))
    (l6 : K.lookup f6 = some ⟨oc6, od6, .func (PySem.W.fnOf "costs_by" "costs_by" (defArgs st_costs_by) (defBody st_costs_by) (defScope st_costs_by) .none kV6 dc6 pm6 an6 cd6 ct6), sl6⟩)
    (e6 : PySem.W.codeIn K cd6 "costs_by" = true) (k6 : PySem.W.keepIn K (.ref f6) = true)
    {od7 an7 : Option Addr} {sl7 : Array (Option Value)} {oc7 kV7 dc7 pm7 cd7 ct7 : Value} {f7 : Addr}
    (a7 : PySem.W.nsIn K mainGlobals "fine" = some (some (.ref f7)))
    (l7 : K.lookup f7 = some ⟨oc7, od7, .func (PySem.W.fnOf "fine" "fine" (defArgs st_fine) (defBody st_fine) (defScope st_fine) .none kV7 dc7 pm7 an7 cd7 ct7), sl7⟩)
    (e7 : PySem.W.codeIn K cd7 "fine" = true) (k7 : PySem.W.keepIn K (.ref f7) = true)
    {od8 an8 : Option Addr} {sl8 : Array (Option Value)} {oc8 kV8 dc8 pm8 cd8 ct8 : Value} {f8 : Addr}
    (a8 : PySem.W.nsIn K mainGlobals "best_cuts" = some (some (.ref f8)))
    (l8 : K.lookup f8 = some ⟨oc8, od8, .func (PySem.W.fnOf "best_cuts" "best_cuts" (defArgs st_best_cuts) (defBody st_best_cuts) (defScope st_best_cuts) .none kV8 dc8 pm8 an8 cd8 ct8), sl8⟩)
    (e8 : PySem.W.codeIn K cd8 "best_cuts" = true) (k8 : PySem.W.keepIn K (.ref f8) = true)
    {od9 an9 : Option Addr} {sl9 : Array (Option Value)} {oc9 kV9 dc9 pm9 cd9 ct9 : Value} {f9 : Addr}
    (a9 : PySem.W.nsIn K mainGlobals "told_cut" = some (some (.ref f9)))
    (l9 : K.lookup f9 = some ⟨oc9, od9, .func (PySem.W.fnOf "told_cut" "told_cut" (defArgs st_told_cut) (defBody st_told_cut) (defScope st_told_cut) .none kV9 dc9 pm9 an9 cd9 ct9), sl9⟩)
    (e9 : PySem.W.codeIn K cd9 "told_cut" = true) (k9 : PySem.W.keepIn K (.ref f9) = true)
    {od10 an10 : Option Addr} {sl10 : Array (Option Value)} {oc10 kV10 dc10 pm10 cd10 ct10 : Value} {f10 : Addr}
    (a10 : PySem.W.nsIn K mainGlobals "least_cut" = some (some (.ref f10)))
    (l10 : K.lookup f10 = some ⟨oc10, od10, .func (PySem.W.fnOf "least_cut" "least_cut" (defArgs st_least_cut) (defBody st_least_cut) (defScope st_least_cut) .none kV10 dc10 pm10 an10 cd10 ct10), sl10⟩)
    (e10 : PySem.W.codeIn K cd10 "least_cut" = true) (k10 : PySem.W.keepIn K (.ref f10) = true)
    {od11 an11 : Option Addr} {sl11 : Array (Option Value)} {oc11 kV11 dc11 pm11 cd11 ct11 : Value} {f11 : Addr}
    (a11 : PySem.W.nsIn K mainGlobals "are_sums" = some (some (.ref f11)))
    (l11 : K.lookup f11 = some ⟨oc11, od11, .func (PySem.W.fnOf "are_sums" "are_sums" (defArgs st_are_sums) (defBody st_are_sums) (defScope st_are_sums) .none kV11 dc11 pm11 an11 cd11 ct11), sl11⟩)
    (e11 : PySem.W.codeIn K cd11 "are_sums" = true) (k11 : PySem.W.keepIn K (.ref f11) = true)
    {od12 an12 : Option Addr} {sl12 : Array (Option Value)} {oc12 kV12 dc12 pm12 cd12 ct12 : Value} {f12 : Addr}
    (a12 : PySem.W.nsIn K mainGlobals "check_sums" = some (some (.ref f12)))
    (l12 : K.lookup f12 = some ⟨oc12, od12, .func (PySem.W.fnOf "check_sums" "check_sums" (defArgs st_check_sums) (defBody st_check_sums) (defScope st_check_sums) .none kV12 dc12 pm12 an12 cd12 ct12), sl12⟩)
    (e12 : PySem.W.codeIn K cd12 "check_sums" = true) (k12 : PySem.W.keepIn K (.ref f12) = true)
    {od13 an13 : Option Addr} {sl13 : Array (Option Value)} {oc13 kV13 dc13 pm13 cd13 ct13 : Value} {f13 : Addr}
    (a13 : PySem.W.nsIn K mainGlobals "least_rows" = some (some (.ref f13)))
    (l13 : K.lookup f13 = some ⟨oc13, od13, .func (PySem.W.fnOf "least_rows" "least_rows" (defArgs st_least_rows) (defBody st_least_rows) (defScope st_least_rows) .none kV13 dc13 pm13 an13 cd13 ct13), sl13⟩)
    (e13 : PySem.W.codeIn K cd13 "least_rows" = true) (k13 : PySem.W.keepIn K (.ref f13) = true)
    {od14 an14 : Option Addr} {sl14 : Array (Option Value)} {oc14 kV14 dc14 pm14 cd14 ct14 : Value} {f14 : Addr}
    (a14 : PySem.W.nsIn K mainGlobals "below" = some (some (.ref f14)))
    (l14 : K.lookup f14 = some ⟨oc14, od14, .func (PySem.W.fnOf "below" "below" (defArgs st_below) (defBody st_below) (defScope st_below) .none kV14 dc14 pm14 an14 cd14 ct14), sl14⟩)
    (e14 : PySem.W.codeIn K cd14 "below" = true) (k14 : PySem.W.keepIn K (.ref f14) = true)
    {od15 an15 : Option Addr} {sl15 : Array (Option Value)} {oc15 kV15 dc15 pm15 cd15 ct15 : Value} {f15 : Addr}
    (a15 : PySem.W.nsIn K mainGlobals "shows_below" = some (some (.ref f15)))
    (l15 : K.lookup f15 = some ⟨oc15, od15, .func (PySem.W.fnOf "shows_below" "shows_below" (defArgs st_shows_below) (defBody st_shows_below) (defScope st_shows_below) .none kV15 dc15 pm15 an15 cd15 ct15), sl15⟩)
    (e15 : PySem.W.codeIn K cd15 "shows_below" = true) (k15 : PySem.W.keepIn K (.ref f15) = true)
    {od16 an16 : Option Addr} {sl16 : Array (Option Value)} {oc16 kV16 dc16 pm16 cd16 ct16 : Value} {f16 : Addr}
    (a16 : PySem.W.nsIn K mainGlobals "_law_pot" = some (some (.ref f16)))
    (l16 : K.lookup f16 = some ⟨oc16, od16, .func (PySem.W.fnOf "_law_pot" "_law_pot" (defArgs st_law_pot) (defBody st_law_pot) (defScope st_law_pot) .none kV16 dc16 pm16 an16 cd16 ct16), sl16⟩)
    (e16 : PySem.W.codeIn K cd16 "_law_pot" = true) (k16 : PySem.W.keepIn K (.ref f16) = true)
    {od17 an17 : Option Addr} {sl17 : Array (Option Value)} {oc17 kV17 dc17 pm17 cd17 ct17 : Value} {f17 : Addr}
    (a17 : PySem.W.nsIn K mainGlobals "_law_take" = some (some (.ref f17)))
    (l17 : K.lookup f17 = some ⟨oc17, od17, .func (PySem.W.fnOf "_law_take" "_law_take" (defArgs st_law_take) (defBody st_law_take) (defScope st_law_take) .none kV17 dc17 pm17 an17 cd17 ct17), sl17⟩)
    (e17 : PySem.W.codeIn K cd17 "_law_take" = true) (k17 : PySem.W.keepIn K (.ref f17) = true)
    {od18 an18 : Option Addr} {sl18 : Array (Option Value)} {oc18 kV18 dc18 pm18 cd18 ct18 : Value} {f18 : Addr}
    (a18 : PySem.W.nsIn K mainGlobals "_law_of" = some (some (.ref f18)))
    (l18 : K.lookup f18 = some ⟨oc18, od18, .func (PySem.W.fnOf "_law_of" "_law_of" (defArgs st_law_of) (defBody st_law_of) (defScope st_law_of) .none kV18 dc18 pm18 an18 cd18 ct18), sl18⟩)
    (e18 : PySem.W.codeIn K cd18 "_law_of" = true) (k18 : PySem.W.keepIn K (.ref f18) = true)
    {od19 an19 : Option Addr} {sl19 : Array (Option Value)} {oc19 kV19 dc19 pm19 cd19 ct19 : Value} {f19 : Addr}
    (a19 : PySem.W.nsIn K mainGlobals "_law_cells" = some (some (.ref f19)))
    (l19 : K.lookup f19 = some ⟨oc19, od19, .func (PySem.W.fnOf "_law_cells" "_law_cells" (defArgs st_law_cells) (defBody st_law_cells) (defScope st_law_cells) .none kV19 dc19 pm19 an19 cd19 ct19), sl19⟩)
    (e19 : PySem.W.codeIn K cd19 "_law_cells" = true) (k19 : PySem.W.keepIn K (.ref f19) = true)
    {od20 an20 : Option Addr} {sl20 : Array (Option Value)} {oc20 kV20 dc20 pm20 cd20 ct20 : Value} {f20 : Addr}
    (a20 : PySem.W.nsIn K mainGlobals "_law_sums" = some (some (.ref f20)))
    (l20 : K.lookup f20 = some ⟨oc20, od20, .func (PySem.W.fnOf "_law_sums" "_law_sums" (defArgs st_law_sums) (defBody st_law_sums) (defScope st_law_sums) .none kV20 dc20 pm20 an20 cd20 ct20), sl20⟩)
    (e20 : PySem.W.codeIn K cd20 "_law_sums" = true) (k20 : PySem.W.keepIn K (.ref f20) = true)
    {od21 an21 : Option Addr} {sl21 : Array (Option Value)} {oc21 kV21 dc21 pm21 cd21 ct21 : Value} {f21 : Addr}
    (a21 : PySem.W.nsIn K mainGlobals "_law_is_int" = some (some (.ref f21)))
    (l21 : K.lookup f21 = some ⟨oc21, od21, .func (PySem.W.fnOf "_law_is_int" "_law_is_int" (defArgs st_law_is_int) (defBody st_law_is_int) (defScope st_law_is_int) .none kV21 dc21 pm21 an21 cd21 ct21), sl21⟩)
    (e21 : PySem.W.codeIn K cd21 "_law_is_int" = true) (k21 : PySem.W.keepIn K (.ref f21) = true)
    {od22 an22 : Option Addr} {sl22 : Array (Option Value)} {oc22 kV22 dc22 pm22 cd22 ct22 : Value} {f22 : Addr}
    (a22 : PySem.W.nsIn K mainGlobals "_law_scale" = some (some (.ref f22)))
    (l22 : K.lookup f22 = some ⟨oc22, od22, .func (PySem.W.fnOf "_law_scale" "_law_scale" (defArgs st_law_scale) (defBody st_law_scale) (defScope st_law_scale) .none kV22 dc22 pm22 an22 cd22 ct22), sl22⟩)
    (e22 : PySem.W.codeIn K cd22 "_law_scale" = true) (k22 : PySem.W.keepIn K (.ref f22) = true)
    {od23 an23 : Option Addr} {sl23 : Array (Option Value)} {oc23 kV23 dc23 pm23 cd23 ct23 : Value} {f23 : Addr}
    (a23 : PySem.W.nsIn K mainGlobals "_law_bent" = some (some (.ref f23)))
    (l23 : K.lookup f23 = some ⟨oc23, od23, .func (PySem.W.fnOf "_law_bent" "_law_bent" (defArgs st_law_bent) (defBody st_law_bent) (defScope st_law_bent) .none kV23 dc23 pm23 an23 cd23 ct23), sl23⟩)
    (e23 : PySem.W.codeIn K cd23 "_law_bent" = true) (k23 : PySem.W.keepIn K (.ref f23) = true)
    {od24 an24 : Option Addr} {sl24 : Array (Option Value)} {oc24 kV24 dc24 pm24 cd24 ct24 : Value} {f24 : Addr}
    (a24 : PySem.W.nsIn K mainGlobals "_law_least" = some (some (.ref f24)))
    (l24 : K.lookup f24 = some ⟨oc24, od24, .func (PySem.W.fnOf "_law_least" "_law_least" (defArgs st_law_least) (defBody st_law_least) (defScope st_law_least) .none kV24 dc24 pm24 an24 cd24 ct24), sl24⟩)
    (e24 : PySem.W.codeIn K cd24 "_law_least" = true) (k24 : PySem.W.keepIn K (.ref f24) = true)
    {od25 an25 : Option Addr} {sl25 : Array (Option Value)} {oc25 kV25 dc25 pm25 cd25 ct25 : Value} {f25 : Addr}
    (a25 : PySem.W.nsIn K mainGlobals "_law_is_told" = some (some (.ref f25)))
    (l25 : K.lookup f25 = some ⟨oc25, od25, .func (PySem.W.fnOf "_law_is_told" "_law_is_told" (defArgs st_law_is_told) (defBody st_law_is_told) (defScope st_law_is_told) .none kV25 dc25 pm25 an25 cd25 ct25), sl25⟩)
    (e25 : PySem.W.codeIn K cd25 "_law_is_told" = true) (k25 : PySem.W.keepIn K (.ref f25) = true)
    {od26 an26 : Option Addr} {sl26 : Array (Option Value)} {oc26 kV26 dc26 pm26 cd26 ct26 : Value} {f26 : Addr}
    (a26 : PySem.W.nsIn K mainGlobals "_law_right" = some (some (.ref f26)))
    (l26 : K.lookup f26 = some ⟨oc26, od26, .func (PySem.W.fnOf "_law_right" "_law_right" (defArgs st_law_right) (defBody st_law_right) (defScope st_law_right) .none kV26 dc26 pm26 an26 cd26 ct26), sl26⟩)
    (e26 : PySem.W.codeIn K cd26 "_law_right" = true) (k26 : PySem.W.keepIn K (.ref f26) = true)
    {od27 an27 : Option Addr} {sl27 : Array (Option Value)} {oc27 kV27 dc27 pm27 cd27 ct27 : Value} {f27 : Addr}
    (a27 : PySem.W.nsIn K mainGlobals "law" = some (some (.ref f27)))
    (l27 : K.lookup f27 = some ⟨oc27, od27, .func (PySem.W.fnOf "law" "law" (defArgs st_law) (defBody st_law) (defScope st_law) .none kV27 dc27 pm27 an27 cd27 ct27), sl27⟩)
    (e27 : PySem.W.codeIn K cd27 "law" = true) (k27 : PySem.W.keepIn K (.ref f27) = true)
    (z_abs : PySem.W.nsIn K mainGlobals "abs" = some none)
    (z_all : PySem.W.nsIn K mainGlobals "all" = some none)
    (z_dict : PySem.W.nsIn K mainGlobals "dict" = some none)
    (z_enumerate : PySem.W.nsIn K mainGlobals "enumerate" = some none)
    (z_int : PySem.W.nsIn K mainGlobals "int" = some none)
    (z_isinstance : PySem.W.nsIn K mainGlobals "isinstance" = some none)
    (z_len : PySem.W.nsIn K mainGlobals "len" = some none)
    (z_list : PySem.W.nsIn K mainGlobals "list" = some none)
    (z_max : PySem.W.nsIn K mainGlobals "max" = some none)
    (z_min : PySem.W.nsIn K mainGlobals "min" = some none)
    (z_range : PySem.W.nsIn K mainGlobals "range" = some none)
    (z_repr : PySem.W.nsIn K mainGlobals "repr" = some none)
    (z_sorted : PySem.W.nsIn K mainGlobals "sorted" = some none)
    (z_str : PySem.W.nsIn K mainGlobals "str" = some none)
    (z_sum : PySem.W.nsIn K mainGlobals "sum" = some none)
    (z_tuple : PySem.W.nsIn K mainGlobals "tuple" = some none)
    (z_zip : PySem.W.nsIn K mainGlobals "zip" = some none)
    (z_bool : PySem.W.nsIn K mainGlobals "bool" = some none)
    {t_MOST_EACH : Tok} (v_MOST_EACH : PySem.W.nsIn K mainGlobals "MOST_EACH" = some (some (.int 999 t_MOST_EACH)))
    {t_MOST_DAYS : Tok} (v_MOST_DAYS : PySem.W.nsIn K mainGlobals "MOST_DAYS" = some (some (.int 400 t_MOST_DAYS)))
    {t_MOST_STEPS : Tok} (v_MOST_STEPS : PySem.W.nsIn K mainGlobals "MOST_STEPS" = some (some (.int 8 t_MOST_STEPS)))
    {t_MOST_SUM : Tok} (v_MOST_SUM : PySem.W.nsIn K mainGlobals "MOST_SUM" = some (some (.int 99999 t_MOST_SUM)))
    {t_MOST_FREE : Tok} (v_MOST_FREE : PySem.W.nsIn K mainGlobals "MOST_FREE" = some (some (.int 99 t_MOST_FREE)))
    {t_PARTS : Tok} (v_PARTS : PySem.W.nsIn K mainGlobals "PARTS" = some (some (.int 3 t_PARTS)))
    {t_MOST_SUMS : Tok} (v_MOST_SUMS : PySem.W.nsIn K mainGlobals "MOST_SUMS" = some (some (.int 30 t_MOST_SUMS)))
    : ∃ fd : FuncData, (∀ (s : Shared) (v : Value), BindsTo s fd ⟨[v], []⟩ [("script", v)]) ∧ ∀ base : Heap, K.In base → base.Ns mainGlobals mg → FnG PySem.Challenge.rw_booksdue_k38_whole_the_greatest_rule_bel.prog w K mg base (CX PySem.Challenge.rw_booksdue_k38_whole_the_greatest_rule_bel.prog w) 8 fa fd ["script"] (spLaw K 63) := by
  have g : Gl K mg := ⟨PySem.W.mg_none_of X G z_abs, PySem.W.mg_none_of X G z_all, PySem.W.mg_none_of X G z_dict, PySem.W.mg_none_of X G z_enumerate, PySem.W.mg_none_of X G z_int, PySem.W.mg_none_of X G z_isinstance, PySem.W.mg_none_of X G z_len, PySem.W.mg_none_of X G z_list, PySem.W.mg_none_of X G z_max, PySem.W.mg_none_of X G z_min, PySem.W.mg_none_of X G z_range, PySem.W.mg_none_of X G z_repr, PySem.W.mg_none_of X G z_sorted, PySem.W.mg_none_of X G z_str, PySem.W.mg_none_of X G z_sum, PySem.W.mg_none_of X G z_tuple, PySem.W.mg_none_of X G z_zip, fun _ _ _ _ => glo_ty _ (PySem.W.mg_none_of X G z_bool) (by decide +kernel) (by decide), fun _ _ _ _ => glo_ty _ (PySem.W.mg_none_of X G z_int) (by decide +kernel) (by decide), fun _ _ _ _ => glo_int (PySem.W.mg_of X G v_MOST_EACH), fun _ _ _ _ => glo_int (PySem.W.mg_of X G v_MOST_DAYS), fun _ _ _ _ => glo_ty _ (PySem.W.mg_none_of X G z_tuple) (by decide +kernel) (by decide), fun _ _ _ _ => glo_int (PySem.W.mg_of X G v_MOST_STEPS), fun _ _ _ _ => glo_int (PySem.W.mg_of X G v_MOST_SUM), fun _ _ _ _ => glo_int (PySem.W.mg_of X G v_MOST_FREE), fun _ _ _ _ => glo_int (PySem.W.mg_of X G v_PARTS), fun _ _ _ _ => glo_int (PySem.W.mg_of X G v_MOST_SUMS)⟩
  have ee := hfa.symm.trans (PySem.W.mg_of X G a27)
  cases ee
  have Fn0 := fun_mk (st := st_is_integer) l0 e0 k0
  have Fn1 := fun_mk (st := st_is_between) l1 e1 k1
  have Fn2 := fun_mk (st := st_are_steps) l2 e2 k2
  have Fn3 := fun_mk (st := st_is_scale) l3 e3 k3
  have Fn4 := fun_mk (st := st_check_scale) l4 e4 k4
  have Fn5 := fun_mk (st := st_check_days) l5 e5 k5
  have Fn6 := fun_mk (st := st_costs_by) l6 e6 k6
  have Fn7 := fun_mk (st := st_fine) l7 e7 k7
  have Fn8 := fun_mk (st := st_best_cuts) l8 e8 k8
  have Fn9 := fun_mk (st := st_told_cut) l9 e9 k9
  have Fn10 := fun_mk (st := st_least_cut) l10 e10 k10
  have Fn11 := fun_mk (st := st_are_sums) l11 e11 k11
  have Fn12 := fun_mk (st := st_check_sums) l12 e12 k12
  have Fn13 := fun_mk (st := st_least_rows) l13 e13 k13
  have Fn14 := fun_mk (st := st_below) l14 e14 k14
  have Fn15 := fun_mk (st := st_shows_below) l15 e15 k15
  have Fn16 := fun_mk (st := st_law_pot) l16 e16 k16
  have Fn17 := fun_mk (st := st_law_take) l17 e17 k17
  have Fn18 := fun_mk (st := st_law_of) l18 e18 k18
  have Fn19 := fun_mk (st := st_law_cells) l19 e19 k19
  have Fn20 := fun_mk (st := st_law_sums) l20 e20 k20
  have Fn21 := fun_mk (st := st_law_is_int) l21 e21 k21
  have Fn22 := fun_mk (st := st_law_scale) l22 e22 k22
  have Fn23 := fun_mk (st := st_law_bent) l23 e23 k23
  have Fn24 := fun_mk (st := st_law_least) l24 e24 k24
  have Fn25 := fun_mk (st := st_law_is_told) l25 e25 k25
  have Fn26 := fun_mk (st := st_law_right) l26 e26 k26
  have Fn27 := fun_mk (st := st_law) l27 e27 k27
  refine ⟨_, fun s v => .of_eq (fd := PySem.W.fnOf "law" "law" (defArgs st_law) (defBody st_law) (defScope st_law) .none kV27 dc27 pm27 an27 cd27 ct27) rfl, fun base _ _ => ?_⟩
  have q_is_integer := got_is_integer (P := PySem.Challenge.rw_booksdue_k38_whole_the_greatest_rule_bel.prog) (w := w) (base := base) g Fn0 (PySem.W.mg_of X G a0)
  have q_is_between := got_is_between (P := PySem.Challenge.rw_booksdue_k38_whole_the_greatest_rule_bel.prog) (w := w) (base := base) g Fn1 (PySem.W.mg_of X G a1) q_is_integer
  have q_are_steps := got_are_steps (P := PySem.Challenge.rw_booksdue_k38_whole_the_greatest_rule_bel.prog) (w := w) (base := base) g Fn2 (PySem.W.mg_of X G a2) q_is_between
  have q_is_scale := got_is_scale (P := PySem.Challenge.rw_booksdue_k38_whole_the_greatest_rule_bel.prog) (w := w) (base := base) g Fn3 (PySem.W.mg_of X G a3) q_is_between q_are_steps
  have q_check_scale := got_check_scale (P := PySem.Challenge.rw_booksdue_k38_whole_the_greatest_rule_bel.prog) (w := w) (base := base) g Fn4 (PySem.W.mg_of X G a4) q_is_scale
  have q_check_days := got_check_days (P := PySem.Challenge.rw_booksdue_k38_whole_the_greatest_rule_bel.prog) (w := w) (base := base) g Fn5 (PySem.W.mg_of X G a5) q_is_between
  have q_costs_by := got_costs_by (P := PySem.Challenge.rw_booksdue_k38_whole_the_greatest_rule_bel.prog) (w := w) (base := base) g Fn6 (PySem.W.mg_of X G a6)
  have q_fine := got_fine (P := PySem.Challenge.rw_booksdue_k38_whole_the_greatest_rule_bel.prog) (w := w) (base := base) g Fn7 (PySem.W.mg_of X G a7) q_costs_by q_check_days q_check_scale
  have q_best_cuts := got_best_cuts (P := PySem.Challenge.rw_booksdue_k38_whole_the_greatest_rule_bel.prog) (w := w) (base := base) g Fn8 (PySem.W.mg_of X G a8)
  have q_told_cut := got_told_cut (P := PySem.Challenge.rw_booksdue_k38_whole_the_greatest_rule_bel.prog) (w := w) (base := base) g Fn9 (PySem.W.mg_of X G a9) q_best_cuts q_costs_by
  have q_least_cut := got_least_cut (P := PySem.Challenge.rw_booksdue_k38_whole_the_greatest_rule_bel.prog) (w := w) (base := base) g Fn10 (PySem.W.mg_of X G a10) q_told_cut q_check_days q_check_scale
  have q_are_sums := got_are_sums (P := PySem.Challenge.rw_booksdue_k38_whole_the_greatest_rule_bel.prog) (w := w) (base := base) g Fn11 (PySem.W.mg_of X G a11) q_is_between
  have q_check_sums := got_check_sums (P := PySem.Challenge.rw_booksdue_k38_whole_the_greatest_rule_bel.prog) (w := w) (base := base) g Fn12 (PySem.W.mg_of X G a12) q_are_sums
  have q_least_rows := got_least_rows (P := PySem.Challenge.rw_booksdue_k38_whole_the_greatest_rule_bel.prog) (w := w) (base := base) g Fn13 (PySem.W.mg_of X G a13)
  have q_below := got_below (P := PySem.Challenge.rw_booksdue_k38_whole_the_greatest_rule_bel.prog) (w := w) (base := base) g Fn14 (PySem.W.mg_of X G a14) q_least_rows q_check_days q_check_sums
  have q_shows_below := got_shows_below (P := PySem.Challenge.rw_booksdue_k38_whole_the_greatest_rule_bel.prog) (w := w) (base := base) g Fn15 (PySem.W.mg_of X G a15) q_is_between q_least_rows q_is_integer q_check_days q_check_sums
  have q_law_pot := got_law_pot (P := PySem.Challenge.rw_booksdue_k38_whole_the_greatest_rule_bel.prog) (w := w) (base := base) g Fn16 (PySem.W.mg_of X G a16)
  have q_law_take := got_law_take (P := PySem.Challenge.rw_booksdue_k38_whole_the_greatest_rule_bel.prog) (w := w) (base := base) g Fn17 (PySem.W.mg_of X G a17)
  have q_law_of := got_law_of (P := PySem.Challenge.rw_booksdue_k38_whole_the_greatest_rule_bel.prog) (w := w) (base := base) g Fn18 (PySem.W.mg_of X G a18) q_law_take
  have q_law_cells := got_law_cells (P := PySem.Challenge.rw_booksdue_k38_whole_the_greatest_rule_bel.prog) (w := w) (base := base) g Fn19 (PySem.W.mg_of X G a19)
  have q_law_sums := got_law_sums (P := PySem.Challenge.rw_booksdue_k38_whole_the_greatest_rule_bel.prog) (w := w) (base := base) g Fn20 (PySem.W.mg_of X G a20) q_law_take q_law_of
  have q_law_is_int := got_law_is_int (P := PySem.Challenge.rw_booksdue_k38_whole_the_greatest_rule_bel.prog) (w := w) (base := base) g Fn21 (PySem.W.mg_of X G a21)
  have q_law_scale := got_law_scale (P := PySem.Challenge.rw_booksdue_k38_whole_the_greatest_rule_bel.prog) (w := w) (base := base) g Fn22 (PySem.W.mg_of X G a22) q_law_of q_law_take
  have q_law_bent := got_law_bent (P := PySem.Challenge.rw_booksdue_k38_whole_the_greatest_rule_bel.prog) (w := w) (base := base) g Fn23 (PySem.W.mg_of X G a23) q_law_of q_law_take
  have q_law_least := got_law_least (P := PySem.Challenge.rw_booksdue_k38_whole_the_greatest_rule_bel.prog) (w := w) (base := base) g Fn24 (PySem.W.mg_of X G a24)
  have q_law_is_told := got_law_is_told (P := PySem.Challenge.rw_booksdue_k38_whole_the_greatest_rule_bel.prog) (w := w) (base := base) g Fn25 (PySem.W.mg_of X G a25) q_law_is_int
  have q_law_right := got_law_right (P := PySem.Challenge.rw_booksdue_k38_whole_the_greatest_rule_bel.prog) (w := w) (base := base) g Fn26 (PySem.W.mg_of X G a26) q_below q_least_cut q_fine q_law_take q_law_scale q_shows_below q_law_is_told (q_law_bent 4) q_law_least q_law_sums q_law_of
  exact (fnG_ev (L := ⟨PySem.Challenge.rw_booksdue_k38_whole_the_greatest_rule_bel.prog, w, K, mg, base, 7⟩) (N := N_law) (ps := ["script"]) Fn27 (C8.fnScope_by (by decide +kernel)) (fun W => sd_law g (Got.cal q_law_cells (by omega)) (Got.cal q_law_right (by omega)) (Got.cal q_law_pot (by omega)) W)).imp (law_imp main)
end K38
namespace K38
open PySem Ev
def PotB (b : Nat) (o : O) : Prop := ∃ p0 p1 p2 : Int, o = .lst [.int p0, .int p1, .int p2] ∧ 0 ≤ p1 ∧ p1 < 2 ^ 61 ∧ 0 ≤ p2 ∧ p2 + b ≤ 2 ^ 40
theorem small_pow {x : Int} (h0 : 0 ≤ x) (h : x < 2 ^ 400) : powOk x 3 = true := by
  unfold powOk
  simp -dsimp only [Bool.and_eq_true, decide_eq_true_eq]
  refine ⟨by decide, ?_⟩
  have h1 : Builtin.Int.intBits x ≤ 401 := by
    unfold Builtin.Int.intBits
    split
    · omega
    · rename_i hx
      have hx0 : x.natAbs ≠ 0 := by
        intro z
        apply hx
        have : x = 0 := by omega
        rw [this]; rfl
      have : x.natAbs.log2 < 400 := (Nat.log2_lt hx0).mpr (by omega)
      omega
  have h2 : ((Builtin.Int.intBits x : Nat) : Int) ≤ 401 := by exact_mod_cast h1
  have : ((Builtin.Int.intBits x : Nat) : Int) * 3 ≤ 401 * 3 := Int.mul_le_mul_of_nonneg_right h2 (by decide)
  exact Int.le_trans this (by decide)
theorem mul_ok_l {x y : Int} (h : x.natAbs < 2 ^ 63) : mulOk x y = true := by unfold mulOk; simp -dsimp [exs, ex1, ev, evs, evP, evC, evT, opn, op2, op1, peek, peeks, truX, truth, biD, cmpD, binD, evF, evI, bindT, bindTs, frzX, frzXs, O.toD, X1.sl, ix_tup, ix_lst, ix_rls, atI_0, atI_1, atI_2, atI_3, L2.ixN, sizeLine_eq, gtD, modD, fdivD, intD, addD, subD, mulD, Ev.finish, powD, h]
theorem mul_ok_r {x y : Int} (h : y.natAbs < 2 ^ 63) : mulOk x y = true := by unfold mulOk; simp -dsimp [exs, ex1, ev, evs, evP, evC, evT, opn, op2, op1, peek, peeks, truX, truth, biD, cmpD, binD, evF, evI, bindT, bindTs, frzX, frzXs, O.toD, X1.sl, ix_tup, ix_lst, ix_rls, atI_0, atI_1, atI_2, atI_3, L2.ixN, sizeLine_eq, gtD, modD, fdivD, intD, addD, subD, mulD, Ev.finish, powD, h]
theorem take_ok {b : Nat} {o : O} {u : Int} (h : PotB (b + 1) o) (h1 : 0 < u) (h2 : u < 2 ^ 30) : ∃ r o', F_law_take [.h 0, .v (.int u)] [o] = .ok (.v (.int r)) [o'] ∧ 0 ≤ r ∧ r < u ∧ PotB b o' := by
  obtain ⟨p0, p1, p2, rfl, a1, a2, a3, a4⟩ := h
  have hu : ¬ u = 0 := by omega
  have hu2 : u.natAbs < 1073741824 := by omega
  by_cases hp : 0 < p0
  · refine ⟨p0.fmod u, .lst [.int (p0.fdiv u), .int p1, .int p2], ?_, ?_, ?_, p0.fdiv u, p1, p2, rfl, a1, a2, a3, by omega⟩
    · unfold F_law_take evFn il_law_take
      simp -dsimp [exs, ex1, ev, evs, evP, evC, evT, opn, op2, op1, peek, peeks, truX, truth, biD, cmpD, binD, evF, evI, bindT, bindTs, frzX, frzXs, O.toD, X1.sl, ix_tup, ix_lst, ix_rls, atI_0, atI_1, atI_2, atI_3, L2.ixN, sizeLine_eq, gtD, modD, fdivD, intD, addD, subD, mulD, Ev.finish, powD, hp, hu, hu2]
    · exact Int.fmod_nonneg_of_pos _ h1
    · exact Int.fmod_lt_of_pos _ h1
  · have m5 : (p2 + 1).fmod 5 = 0 ∨ (p2 + 1).fmod 5 = 1 ∨ (p2 + 1).fmod 5 = 2 ∨ (p2 + 1).fmod 5 = 3 ∨ (p2 + 1).fmod 5 = 4 := by
      have h1 := Int.fmod_nonneg_of_pos (p2 + 1) (b := 5) (by decide)
      have h2 := Int.fmod_lt_of_pos (p2 + 1) (b := 5) (by decide)
      omega
    have main : ∀ prime : Int, 0 < prime → prime < 2 ^ 31 → (([2147483647, 2147483629, 2147483587, 2147483579, 2147483563] : List Int)[((p2 + 1).fmod 5).toNat]? = some prime) → ∃ r o', F_law_take [.h 0, .v (.int u)] [.lst [.int p0, .int p1, .int p2]] = .ok (.v (.int r)) [o'] ∧ 0 ≤ r ∧ r < u ∧ PotB b o' := by
      intro prime hp1 hp2 hpr
      have b0 : 0 ≤ p1 + 98426 * (p2 + 1) * (p2 + 1) + 981 := by
        have : 0 ≤ 98426 * (p2 + 1) * (p2 + 1) := Int.mul_nonneg (by omega) (by omega)
        omega
      have b2 : (98426 * (p2 + 1)).natAbs < 2 ^ 63 := by omega
      generalize hx : p1 + 98426 * (p2 + 1) * (p2 + 1) + 981 = x
      have hix : L2.atI [D.int 2147483647, D.int 2147483629, D.int 2147483587, D.int 2147483579, D.int 2147483563] ((p2 + 1).fmod 5) = some (.int prime) := by
        rw [atI_of (Int.fmod_nonneg_of_pos _ (by decide))]
        have : ([D.int 2147483647, D.int 2147483629, D.int 2147483587, D.int 2147483579, D.int 2147483563] : List D) = ([2147483647, 2147483629, 2147483587, 2147483579, 2147483563] : List Int).map D.int := rfl
        rw [this, List.getElem?_map, hpr]; rfl
      have hpz : ¬ prime = 0 := by omega
      have m1 : mulOk 98426 (p2 + 1) = true := mul_ok_l (by decide)
      have m2 : mulOk (98426 * (p2 + 1)) (p2 + 1) = true := mul_ok_l b2
      have m3 : mulOk 106 (p2 + 1) = true := mul_ok_l (by decide)
      have xb : x < 2 ^ 400 := by
        have q1 : 98426 * (p2 + 1) ≤ 98426 * 2 ^ 41 := by omega
        have q2 : 98426 * (p2 + 1) * (p2 + 1) ≤ 98426 * 2 ^ 41 * 2 ^ 41 := Int.mul_le_mul q1 (by omega) (by omega) (by decide)
        have q3 : x < 2 ^ 61 + 98426 * 2 ^ 41 * 2 ^ 41 + 982 := by omega
        exact Int.lt_trans q3 (by decide)
      have pw : powOk x 3 = true := small_pow (by rw [← hx]; exact b0) xb
      have f1 := Int.fmod_nonneg_of_pos (x ^ 3) hp1
      have f2 := Int.fmod_lt_of_pos (x ^ 3) hp1
      have m4 : mulOk ((x ^ 3).fmod prime) (((x ^ 3).fmod prime).fmod 14026 + 106 * (p2 + 1)) = true := mul_ok_l (by omega)
      refine ⟨((((x ^ 3).fmod prime * (((x ^ 3).fmod prime).fmod 14026 + 106 * (p2 + 1))).fmod 2305843009213693907).fdiv 128).fmod u, .lst [.int p0, .int p1, .int (p2 + 1)], ?_, Int.fmod_nonneg_of_pos _ h1, Int.fmod_lt_of_pos _ h1, p0, p1, p2 + 1, rfl, a1, a2, by omega, by omega⟩
      · unfold F_law_take evFn il_law_take
        simp -dsimp [exs, ex1, ev, evs, evP, evC, evT, opn, op2, op1, peek, peeks, truX, truth, biD, cmpD, binD, evF, evI, bindT, bindTs, frzX, frzXs, O.toD, X1.sl, ix_tup, ix_lst, ix_rls, atI_0, atI_1, atI_2, atI_3, L2.ixN, sizeLine_eq, gtD, modD, fdivD, intD, addD, subD, mulD, Ev.finish, powD, hp, hu, hu2, hix, hpz, m1, m2, m3, hx, pw, m4]
    rcases m5 with h | h | h | h | h
    · exact main 2147483647 (by decide) (by decide) (by rw [h]; rfl)
    · exact main 2147483629 (by decide) (by decide) (by rw [h]; rfl)
    · exact main 2147483587 (by decide) (by decide) (by rw [h]; rfl)
    · exact main 2147483579 (by decide) (by decide) (by rw [h]; rfl)
    · exact main 2147483563 (by decide) (by decide) (by rw [h]; rfl)
end K38
namespace K38
open PySem Ev
def isI : D → Bool | .int _ => true | _ => false
def btw (d : D) (a b : Int) : Bool := match d with | .int i => decide (a ≤ i) && decide (i ≤ b) | _ => false
/-- a tree of plain values -/
inductive Good : D → Prop
  | non : Good .non
  | bl (b : Bool) : Good (.bl b)
  | int (i : Int) : Good (.int i)
  | str (s : Str) : Good (.str s)
  | tup (xs : List D) (h : ∀ x ∈ xs, Good x) : Good (.tup xs)
  | lst (xs : List D) : Good (.lst xs)
  | dct (ks : List L2.Key) (vs : List D) : Good (.dct ks vs)
theorem is_integer_ok {d : D} (g : Good d) : F_is_integer [.v d] [] = .ok (.v (.bl (isI d))) [] := by
  unfold F_is_integer evFn il_is_integer
  cases g <;> simp -dsimp [exs, ev, evs, evP, evC, evT, opn, op2, op1, peek, peeks, truX, truth, biD, cmpD, binD, evI, bindT, bindTs, frzX, frzXs, O.toD, X1.sl, ix_tup, ix_lst, ix_rls, atI_0, atI_1, atI_2, atI_3, gtD, modD, fdivD, intD, addD, subD, mulD, Ev.finish, powD, isiD, D.tyn, isT, evF_lst, evF_cat, evF_rep, evF_sl, evF_bil, evF_bis, evF_bid, evF_rng, evF_dnew, evF_ssi, ex1_ex, ex1_nm, ex1_tp, ex1_par, ex1_ret, ex1_ret0, ex1_ite, ex1_sti, leD, ltD, geD, lenD, isD, isnD, isB, isI]
theorem is_integer_call {d : D} (g : Good d) (φ : List O) : callX F_is_integer [.v d] φ = .ok (.v (.bl (isI d))) φ := callX_a1 (is_integer_ok g)
theorem is_between_ok {d : D} (g : Good d) (a b : Int) : F_is_between [.v d, .v (.int a), .v (.int b)] [] = .ok (.v (.bl (btw d a b))) [] := by
  unfold F_is_between evFn il_is_between
  simp -dsimp only [List.length_cons, List.length_nil, Nat.reduceAdd, Nat.le_refl, and_self, if_true]
  cases g with
  | int i =>
    by_cases h : a ≤ i
    · simp -dsimp [exs, ev, evs, evP, evC, evT, opn, op2, op1, peek, peeks, truX, truth, biD, cmpD, binD, evI, bindT, bindTs, frzX, frzXs, O.toD, X1.sl, ix_tup, ix_lst, ix_rls, atI_0, atI_1, atI_2, atI_3, gtD, modD, fdivD, intD, addD, subD, mulD, Ev.finish, powD, isiD, D.tyn, isT, evF_lst, evF_cat, evF_rep, evF_sl, evF_bil, evF_bis, evF_bid, evF_rng, evF_dnew, evF_ssi, ex1_ex, ex1_nm, ex1_tp, ex1_par, ex1_ret, ex1_ret0, ex1_ite, ex1_sti, leD, ltD, geD, lenD, isD, isnD, isB, is_integer_call (.int i), isI, btw, h]
    · simp -dsimp [exs, ev, evs, evP, evC, evT, opn, op2, op1, peek, peeks, truX, truth, biD, cmpD, binD, evI, bindT, bindTs, frzX, frzXs, O.toD, X1.sl, ix_tup, ix_lst, ix_rls, atI_0, atI_1, atI_2, atI_3, gtD, modD, fdivD, intD, addD, subD, mulD, Ev.finish, powD, isiD, D.tyn, isT, evF_lst, evF_cat, evF_rep, evF_sl, evF_bil, evF_bis, evF_bid, evF_rng, evF_dnew, evF_ssi, ex1_ex, ex1_nm, ex1_tp, ex1_par, ex1_ret, ex1_ret0, ex1_ite, ex1_sti, leD, ltD, geD, lenD, isD, isnD, isB, is_integer_call (.int i), isI, btw, h]
  | non => simp -dsimp [exs, ev, evs, evP, evC, evT, opn, op2, op1, peek, peeks, truX, truth, biD, cmpD, binD, evI, bindT, bindTs, frzX, frzXs, O.toD, X1.sl, ix_tup, ix_lst, ix_rls, atI_0, atI_1, atI_2, atI_3, gtD, modD, fdivD, intD, addD, subD, mulD, Ev.finish, powD, isiD, D.tyn, isT, evF_lst, evF_cat, evF_rep, evF_sl, evF_bil, evF_bis, evF_bid, evF_rng, evF_dnew, evF_ssi, ex1_ex, ex1_nm, ex1_tp, ex1_par, ex1_ret, ex1_ret0, ex1_ite, ex1_sti, leD, ltD, geD, lenD, isD, isnD, isB, is_integer_call .non, isI, btw]
  | bl b => simp -dsimp [exs, ev, evs, evP, evC, evT, opn, op2, op1, peek, peeks, truX, truth, biD, cmpD, binD, evI, bindT, bindTs, frzX, frzXs, O.toD, X1.sl, ix_tup, ix_lst, ix_rls, atI_0, atI_1, atI_2, atI_3, gtD, modD, fdivD, intD, addD, subD, mulD, Ev.finish, powD, isiD, D.tyn, isT, evF_lst, evF_cat, evF_rep, evF_sl, evF_bil, evF_bis, evF_bid, evF_rng, evF_dnew, evF_ssi, ex1_ex, ex1_nm, ex1_tp, ex1_par, ex1_ret, ex1_ret0, ex1_ite, ex1_sti, leD, ltD, geD, lenD, isD, isnD, isB, is_integer_call (.bl b), isI, btw]
  | str s => simp -dsimp [exs, ev, evs, evP, evC, evT, opn, op2, op1, peek, peeks, truX, truth, biD, cmpD, binD, evI, bindT, bindTs, frzX, frzXs, O.toD, X1.sl, ix_tup, ix_lst, ix_rls, atI_0, atI_1, atI_2, atI_3, gtD, modD, fdivD, intD, addD, subD, mulD, Ev.finish, powD, isiD, D.tyn, isT, evF_lst, evF_cat, evF_rep, evF_sl, evF_bil, evF_bis, evF_bid, evF_rng, evF_dnew, evF_ssi, ex1_ex, ex1_nm, ex1_tp, ex1_par, ex1_ret, ex1_ret0, ex1_ite, ex1_sti, leD, ltD, geD, lenD, isD, isnD, isB, is_integer_call (.str s), isI, btw]
  | tup xs h => simp -dsimp [exs, ev, evs, evP, evC, evT, opn, op2, op1, peek, peeks, truX, truth, biD, cmpD, binD, evI, bindT, bindTs, frzX, frzXs, O.toD, X1.sl, ix_tup, ix_lst, ix_rls, atI_0, atI_1, atI_2, atI_3, gtD, modD, fdivD, intD, addD, subD, mulD, Ev.finish, powD, isiD, D.tyn, isT, evF_lst, evF_cat, evF_rep, evF_sl, evF_bil, evF_bis, evF_bid, evF_rng, evF_dnew, evF_ssi, ex1_ex, ex1_nm, ex1_tp, ex1_par, ex1_ret, ex1_ret0, ex1_ite, ex1_sti, leD, ltD, geD, lenD, isD, isnD, isB, is_integer_call (.tup xs h), isI, btw]
  | lst xs => simp -dsimp [exs, ev, evs, evP, evC, evT, opn, op2, op1, peek, peeks, truX, truth, biD, cmpD, binD, evI, bindT, bindTs, frzX, frzXs, O.toD, X1.sl, ix_tup, ix_lst, ix_rls, atI_0, atI_1, atI_2, atI_3, gtD, modD, fdivD, intD, addD, subD, mulD, Ev.finish, powD, isiD, D.tyn, isT, evF_lst, evF_cat, evF_rep, evF_sl, evF_bil, evF_bis, evF_bid, evF_rng, evF_dnew, evF_ssi, ex1_ex, ex1_nm, ex1_tp, ex1_par, ex1_ret, ex1_ret0, ex1_ite, ex1_sti, leD, ltD, geD, lenD, isD, isnD, isB, is_integer_call (.lst xs), isI, btw]
  | dct ks vs => simp -dsimp [exs, ev, evs, evP, evC, evT, opn, op2, op1, peek, peeks, truX, truth, biD, cmpD, binD, evI, bindT, bindTs, frzX, frzXs, O.toD, X1.sl, ix_tup, ix_lst, ix_rls, atI_0, atI_1, atI_2, atI_3, gtD, modD, fdivD, intD, addD, subD, mulD, Ev.finish, powD, isiD, D.tyn, isT, evF_lst, evF_cat, evF_rep, evF_sl, evF_bil, evF_bis, evF_bid, evF_rng, evF_dnew, evF_ssi, ex1_ex, ex1_nm, ex1_tp, ex1_par, ex1_ret, ex1_ret0, ex1_ite, ex1_sti, leD, ltD, geD, lenD, isD, isnD, isB, is_integer_call (.dct ks vs), isI, btw]
theorem is_between_call {d : D} (g : Good d) (a b : Int) (φ : List O) : callX F_is_between [.v d, .v (.int a), .v (.int b)] φ = .ok (.v (.bl (btw d a b))) φ := callX_a3 (is_between_ok g a b)
theorem law_is_int_ok {d : D} (g : Good d) (a b : Int) : F_law_is_int [.v d, .v (.int a), .v (.int b)] [] = .ok (.v (.bl (btw d a b))) [] := by
  unfold F_law_is_int evFn il_law_is_int
  simp -dsimp only [List.length_cons, List.length_nil, Nat.reduceAdd, Nat.le_refl, and_self, if_true]
  cases g with
  | int i =>
    by_cases h : a ≤ i
    · simp -dsimp [exs, ev, evs, evP, evC, evT, opn, op2, op1, peek, peeks, truX, truth, biD, cmpD, binD, evI, bindT, bindTs, frzX, frzXs, O.toD, X1.sl, ix_tup, ix_lst, ix_rls, atI_0, atI_1, atI_2, atI_3, gtD, modD, fdivD, intD, addD, subD, mulD, Ev.finish, powD, isiD, D.tyn, isT, evF_lst, evF_cat, evF_rep, evF_sl, evF_bil, evF_bis, evF_bid, evF_rng, evF_dnew, evF_ssi, ex1_ex, ex1_nm, ex1_tp, ex1_par, ex1_ret, ex1_ret0, ex1_ite, ex1_sti, leD, ltD, geD, lenD, isD, isnD, isB, btw, h]
    · simp -dsimp [exs, ev, evs, evP, evC, evT, opn, op2, op1, peek, peeks, truX, truth, biD, cmpD, binD, evI, bindT, bindTs, frzX, frzXs, O.toD, X1.sl, ix_tup, ix_lst, ix_rls, atI_0, atI_1, atI_2, atI_3, gtD, modD, fdivD, intD, addD, subD, mulD, Ev.finish, powD, isiD, D.tyn, isT, evF_lst, evF_cat, evF_rep, evF_sl, evF_bil, evF_bis, evF_bid, evF_rng, evF_dnew, evF_ssi, ex1_ex, ex1_nm, ex1_tp, ex1_par, ex1_ret, ex1_ret0, ex1_ite, ex1_sti, leD, ltD, geD, lenD, isD, isnD, isB, btw, h]
  | non => simp -dsimp [exs, ev, evs, evP, evC, evT, opn, op2, op1, peek, peeks, truX, truth, biD, cmpD, binD, evI, bindT, bindTs, frzX, frzXs, O.toD, X1.sl, ix_tup, ix_lst, ix_rls, atI_0, atI_1, atI_2, atI_3, gtD, modD, fdivD, intD, addD, subD, mulD, Ev.finish, powD, isiD, D.tyn, isT, evF_lst, evF_cat, evF_rep, evF_sl, evF_bil, evF_bis, evF_bid, evF_rng, evF_dnew, evF_ssi, ex1_ex, ex1_nm, ex1_tp, ex1_par, ex1_ret, ex1_ret0, ex1_ite, ex1_sti, leD, ltD, geD, lenD, isD, isnD, isB, btw]
  | bl b => simp -dsimp [exs, ev, evs, evP, evC, evT, opn, op2, op1, peek, peeks, truX, truth, biD, cmpD, binD, evI, bindT, bindTs, frzX, frzXs, O.toD, X1.sl, ix_tup, ix_lst, ix_rls, atI_0, atI_1, atI_2, atI_3, gtD, modD, fdivD, intD, addD, subD, mulD, Ev.finish, powD, isiD, D.tyn, isT, evF_lst, evF_cat, evF_rep, evF_sl, evF_bil, evF_bis, evF_bid, evF_rng, evF_dnew, evF_ssi, ex1_ex, ex1_nm, ex1_tp, ex1_par, ex1_ret, ex1_ret0, ex1_ite, ex1_sti, leD, ltD, geD, lenD, isD, isnD, isB, btw]
  | str s => simp -dsimp [exs, ev, evs, evP, evC, evT, opn, op2, op1, peek, peeks, truX, truth, biD, cmpD, binD, evI, bindT, bindTs, frzX, frzXs, O.toD, X1.sl, ix_tup, ix_lst, ix_rls, atI_0, atI_1, atI_2, atI_3, gtD, modD, fdivD, intD, addD, subD, mulD, Ev.finish, powD, isiD, D.tyn, isT, evF_lst, evF_cat, evF_rep, evF_sl, evF_bil, evF_bis, evF_bid, evF_rng, evF_dnew, evF_ssi, ex1_ex, ex1_nm, ex1_tp, ex1_par, ex1_ret, ex1_ret0, ex1_ite, ex1_sti, leD, ltD, geD, lenD, isD, isnD, isB, btw]
  | tup xs h => simp -dsimp [exs, ev, evs, evP, evC, evT, opn, op2, op1, peek, peeks, truX, truth, biD, cmpD, binD, evI, bindT, bindTs, frzX, frzXs, O.toD, X1.sl, ix_tup, ix_lst, ix_rls, atI_0, atI_1, atI_2, atI_3, gtD, modD, fdivD, intD, addD, subD, mulD, Ev.finish, powD, isiD, D.tyn, isT, evF_lst, evF_cat, evF_rep, evF_sl, evF_bil, evF_bis, evF_bid, evF_rng, evF_dnew, evF_ssi, ex1_ex, ex1_nm, ex1_tp, ex1_par, ex1_ret, ex1_ret0, ex1_ite, ex1_sti, leD, ltD, geD, lenD, isD, isnD, isB, btw]
  | lst xs => simp -dsimp [exs, ev, evs, evP, evC, evT, opn, op2, op1, peek, peeks, truX, truth, biD, cmpD, binD, evI, bindT, bindTs, frzX, frzXs, O.toD, X1.sl, ix_tup, ix_lst, ix_rls, atI_0, atI_1, atI_2, atI_3, gtD, modD, fdivD, intD, addD, subD, mulD, Ev.finish, powD, isiD, D.tyn, isT, evF_lst, evF_cat, evF_rep, evF_sl, evF_bil, evF_bis, evF_bid, evF_rng, evF_dnew, evF_ssi, ex1_ex, ex1_nm, ex1_tp, ex1_par, ex1_ret, ex1_ret0, ex1_ite, ex1_sti, leD, ltD, geD, lenD, isD, isnD, isB, btw]
  | dct ks vs => simp -dsimp [exs, ev, evs, evP, evC, evT, opn, op2, op1, peek, peeks, truX, truth, biD, cmpD, binD, evI, bindT, bindTs, frzX, frzXs, O.toD, X1.sl, ix_tup, ix_lst, ix_rls, atI_0, atI_1, atI_2, atI_3, gtD, modD, fdivD, intD, addD, subD, mulD, Ev.finish, powD, isiD, D.tyn, isT, evF_lst, evF_cat, evF_rep, evF_sl, evF_bil, evF_bis, evF_bid, evF_rng, evF_dnew, evF_ssi, ex1_ex, ex1_nm, ex1_tp, ex1_par, ex1_ret, ex1_ret0, ex1_ite, ex1_sti, leD, ltD, geD, lenD, isD, isnD, isB, btw]
theorem law_is_int_call {d : D} (g : Good d) (a b : Int) (φ : List O) : callX F_law_is_int [.v d, .v (.int a), .v (.int b)] φ = .ok (.v (.bl (btw d a b))) φ := callX_a3 (law_is_int_ok g a b)
end K38
namespace K38
open PySem Ev
theorem forL_chk {f : D → List Sl → List O → R Out} {p : D → Bool} {x : X1} {I : List Sl → Prop} {φ : List O} : ∀ (ds : List D), (∀ d ∈ ds, ∀ ρ, I ρ → (p d = true → ∃ ρ', f d ρ φ = .ok (.nx ρ') φ ∧ I ρ') ∧ (p d = false → f d ρ φ = .ok (.rt x) φ)) → ∀ ρ, I ρ → (ds.all p = true → ∃ ρ', forL f ds ρ φ = .ok (.nx ρ') φ ∧ I ρ') ∧ (ds.all p = false → forL f ds ρ φ = .ok (.rt x) φ)
  | [], _, ρ, hI => ⟨fun _ => ⟨ρ, rfl, hI⟩, fun h => by cases h⟩
  | d :: ds, h, ρ, hI => by
    obtain ⟨h1, h2⟩ := h d List.mem_cons_self ρ hI
    cases hp : p d with
    | false =>
      refine ⟨fun h => ?_, fun _ => ?_⟩
      · simp -dsimp [exs, ev, evs, evP, evC, evT, opn, op2, op1, peek, peeks, truX, truth, biD, cmpD, binD, evI, bindT, bindTs, frzX, frzXs, O.toD, X1.sl, ix_tup, ix_lst, ix_rls, atI_0, atI_1, atI_2, atI_3, gtD, modD, fdivD, intD, addD, subD, mulD, Ev.finish, powD, isiD, D.tyn, isT, evF_lst, evF_cat, evF_rep, evF_sl, evF_bil, evF_bis, evF_bid, evF_rng, evF_dnew, evF_ssi, ex1_ex, ex1_nm, ex1_tp, ex1_par, ex1_ret, ex1_ret0, ex1_ite, ex1_sti, leD, ltD, geD, lenD, isD, isnD, isB, D.items, neD, eqD, eqB, hp] at h
      · rw [forL_rt (h2 hp)]
    | true =>
      obtain ⟨ρ1, e1, hI1⟩ := h1 hp
      have ih := forL_chk ds (fun d' hd => h d' (List.mem_cons_of_mem _ hd)) ρ1 hI1
      rw [forL_nx e1, List.all_cons, hp, Bool.true_and]
      exact ih
def stepOk (d : D) : Bool := match d with
  | .tup [a, b] => btw a 1 400 && btw b 0 999
  | _ => false
def own (d : D) : Int := match d with
  | .tup (.int a :: _) => a
  | _ => 0
def okSteps (d : D) : Bool := match d with
  | .tup xs => decide (1 ≤ xs.length) && (decide (xs.length ≤ 8) && (xs.all stepOk && (decide ((xs.map own).head? = some 1) && adj (xs.map own))))
  | _ => false
def noneOr (c : D) : Bool := match c with
  | .non => true
  | c => btw c 0 99999
def okScale (d : D) : Bool := match d with
  | .tup [a, b, c] => btw a 0 99 && (okSteps b && noneOr c)
  | _ => false
theorem Good.tupI {xs : List D} (g : Good (.tup xs)) : ∀ x ∈ xs, Good x := by cases g; assumption
theorem stepOk_inv {d : D} (h : stepOk d = true) : ∃ a b : Int, d = .tup [.int a, .int b] ∧ 1 ≤ a ∧ a ≤ 400 ∧ 0 ≤ b ∧ b ≤ 999 := by
  unfold stepOk at h
  split at h
  · rename_i a b
    simp -dsimp only [Bool.and_eq_true] at h
    obtain ⟨h1, h2⟩ := h
    cases a <;> simp -dsimp [exs, ev, evs, evP, evC, evT, opn, op2, op1, peek, peeks, truX, truth, biD, cmpD, binD, evI, bindT, bindTs, frzX, frzXs, O.toD, X1.sl, ix_tup, ix_lst, ix_rls, atI_0, atI_1, atI_2, atI_3, gtD, modD, fdivD, intD, addD, subD, mulD, Ev.finish, powD, isiD, D.tyn, isT, evF_lst, evF_cat, evF_rep, evF_sl, evF_bil, evF_bis, evF_bid, evF_rng, evF_dnew, evF_ssi, ex1_ex, ex1_nm, ex1_tp, ex1_par, ex1_ret, ex1_ret0, ex1_ite, ex1_sti, leD, ltD, geD, lenD, isD, isnD, isB, D.items, neD, eqD, eqB, btw] at h1
    cases b <;> simp -dsimp [exs, ev, evs, evP, evC, evT, opn, op2, op1, peek, peeks, truX, truth, biD, cmpD, binD, evI, bindT, bindTs, frzX, frzXs, O.toD, X1.sl, ix_tup, ix_lst, ix_rls, atI_0, atI_1, atI_2, atI_3, gtD, modD, fdivD, intD, addD, subD, mulD, Ev.finish, powD, isiD, D.tyn, isT, evF_lst, evF_cat, evF_rep, evF_sl, evF_bil, evF_bis, evF_bid, evF_rng, evF_dnew, evF_ssi, ex1_ex, ex1_nm, ex1_tp, ex1_par, ex1_ret, ex1_ret0, ex1_ite, ex1_sti, leD, ltD, geD, lenD, isD, isnD, isB, D.items, neD, eqD, eqB, btw] at h2
    exact ⟨_, _, rfl, by omega, by omega, by omega, by omega⟩
  · cases h
theorem cut_fr {α : Type} {xs : List α} {k : Nat} : Ev.cut xs (some (k : Int)) none = xs.drop k := by
  unfold Ev.cut
  rw [HT.sIx_nat, HT.sIx_none]
  by_cases h : k ≤ xs.length
  · rw [Nat.min_eq_left h, List.take_of_length_le (by simp -dsimp [exs, ev, evs, evP, evC, evT, opn, op2, op1, peek, peeks, truX, truth, biD, cmpD, binD, evI, bindT, bindTs, frzX, frzXs, O.toD, X1.sl, ix_tup, ix_lst, ix_rls, atI_0, atI_1, atI_2, atI_3, gtD, modD, fdivD, intD, addD, subD, mulD, Ev.finish, powD, isiD, D.tyn, isT, evF_lst, evF_cat, evF_rep, evF_sl, evF_bil, evF_bis, evF_bid, evF_rng, evF_dnew, evF_ssi, ex1_ex, ex1_nm, ex1_tp, ex1_par, ex1_ret, ex1_ret0, ex1_ite, ex1_sti, leD, ltD, geD, lenD, isD, isnD, isB, D.items, neD, eqD, eqB])]
  · rw [Nat.min_eq_right (by omega), List.drop_length, List.drop_eq_nil_of_le (by omega)]; simp -dsimp [exs, ev, evs, evP, evC, evT, opn, op2, op1, peek, peeks, truX, truth, biD, cmpD, binD, evI, bindT, bindTs, frzX, frzXs, O.toD, X1.sl, ix_tup, ix_lst, ix_rls, atI_0, atI_1, atI_2, atI_3, gtD, modD, fdivD, intD, addD, subD, mulD, Ev.finish, powD, isiD, D.tyn, isT, evF_lst, evF_cat, evF_rep, evF_sl, evF_bil, evF_bis, evF_bid, evF_rng, evF_dnew, evF_ssi, ex1_ex, ex1_nm, ex1_tp, ex1_par, ex1_ret, ex1_ret0, ex1_ite, ex1_sti, leD, ltD, geD, lenD, isD, isnD, isB, D.items, neD, eqD, eqB]
theorem cut_to {α : Type} {xs : List α} {k : Nat} : Ev.cut xs none (some (k : Int)) = xs.take k := by
  unfold Ev.cut
  rw [HT.sIx_nat, HT.sIx_none, List.drop_zero, Nat.sub_zero]
  by_cases h : k ≤ xs.length
  · rw [Nat.min_eq_left h]
  · rw [Nat.min_eq_right (by omega), List.take_length, List.take_of_length_le (by omega)]
def ltW : D → Option D
  | .wtp [x, y] => some (.bl (decide (own x < own y)))
  | _ => none
theorem zipL_len : ∀ (xs ys : List D), (zipL xs ys).length ≤ ys.length
  | [], ys => by simp -dsimp [exs, ev, evs, evP, evC, evT, opn, op2, op1, peek, peeks, truX, truth, biD, cmpD, binD, evI, bindT, bindTs, frzX, frzXs, O.toD, X1.sl, ix_tup, ix_lst, ix_rls, atI_0, atI_1, atI_2, atI_3, gtD, modD, fdivD, intD, addD, subD, mulD, Ev.finish, powD, isiD, D.tyn, isT, evF_lst, evF_cat, evF_rep, evF_sl, evF_bil, evF_bis, evF_bid, evF_rng, evF_dnew, evF_ssi, ex1_ex, ex1_nm, ex1_tp, ex1_par, ex1_ret, ex1_ret0, ex1_ite, ex1_sti, leD, ltD, geD, lenD, isD, isnD, isB, D.items, neD, eqD, eqB, zipL]
  | _ :: _, [] => by simp -dsimp [exs, ev, evs, evP, evC, evT, opn, op2, op1, peek, peeks, truX, truth, biD, cmpD, binD, evI, bindT, bindTs, frzX, frzXs, O.toD, X1.sl, ix_tup, ix_lst, ix_rls, atI_0, atI_1, atI_2, atI_3, gtD, modD, fdivD, intD, addD, subD, mulD, Ev.finish, powD, isiD, D.tyn, isT, evF_lst, evF_cat, evF_rep, evF_sl, evF_bil, evF_bis, evF_bid, evF_rng, evF_dnew, evF_ssi, ex1_ex, ex1_nm, ex1_tp, ex1_par, ex1_ret, ex1_ret0, ex1_ite, ex1_sti, leD, ltD, geD, lenD, isD, isnD, isB, D.items, neD, eqD, eqB, zipL]
  | _ :: xs, _ :: ys => by simp -dsimp only [zipL, List.length_cons]; have := zipL_len xs ys; omega
theorem zipL_mem : ∀ {xs ys : List D} {d : D}, d ∈ zipL xs ys → ∃ u v, d = .wtp [u, v] ∧ u ∈ xs ∧ v ∈ ys
  | [], ys, d, h => by simp -dsimp [exs, ev, evs, evP, evC, evT, opn, op2, op1, peek, peeks, truX, truth, biD, cmpD, binD, evI, bindT, bindTs, frzX, frzXs, O.toD, X1.sl, ix_tup, ix_lst, ix_rls, atI_0, atI_1, atI_2, atI_3, gtD, modD, fdivD, intD, addD, subD, mulD, Ev.finish, powD, isiD, D.tyn, isT, evF_lst, evF_cat, evF_rep, evF_sl, evF_bil, evF_bis, evF_bid, evF_rng, evF_dnew, evF_ssi, ex1_ex, ex1_nm, ex1_tp, ex1_par, ex1_ret, ex1_ret0, ex1_ite, ex1_sti, leD, ltD, geD, lenD, isD, isnD, isB, D.items, neD, eqD, eqB, zipL] at h
  | _ :: _, [], d, h => by simp -dsimp [exs, ev, evs, evP, evC, evT, opn, op2, op1, peek, peeks, truX, truth, biD, cmpD, binD, evI, bindT, bindTs, frzX, frzXs, O.toD, X1.sl, ix_tup, ix_lst, ix_rls, atI_0, atI_1, atI_2, atI_3, gtD, modD, fdivD, intD, addD, subD, mulD, Ev.finish, powD, isiD, D.tyn, isT, evF_lst, evF_cat, evF_rep, evF_sl, evF_bil, evF_bis, evF_bid, evF_rng, evF_dnew, evF_ssi, ex1_ex, ex1_nm, ex1_tp, ex1_par, ex1_ret, ex1_ret0, ex1_ite, ex1_sti, leD, ltD, geD, lenD, isD, isnD, isB, D.items, neD, eqD, eqB, zipL] at h
  | x :: xs, y :: ys, d, h => by
    simp -dsimp only [zipL, List.mem_cons] at h
    rcases h with rfl | h
    · exact ⟨x, y, rfl, List.mem_cons_self, List.mem_cons_self⟩
    · obtain ⟨u, v, e, h1, h2⟩ := zipL_mem h
      exact ⟨u, v, e, List.mem_cons_of_mem _ h1, List.mem_cons_of_mem _ h2⟩
theorem adj_zip : ∀ (xs : List D), (∀ d ∈ xs, stepOk d = true) → (D.allBls ((zipL xs xs.tail).filterMap ltW)).map (fun ns => ns.all id) = some (adj (xs.map own))
  | [], _ => rfl
  | [_], _ => rfl
  | x :: y :: r, h => by
    have ih := adj_zip (y :: r) fun d hd => h d (List.mem_cons_of_mem _ hd)
    simp -dsimp only [List.tail_cons] at ih ⊢
    simp -dsimp only [zipL, ltW, List.filterMap_cons, D.allBls, List.map_cons, adj, Option.map_map] at ih ⊢
    cases hq : D.allBls ((zipL (y :: r) r).filterMap ltW) with
    | none => rw [hq] at ih; cases ih
    | some bs =>
      rw [hq] at ih
      simp -dsimp only [Option.map_some, Option.some.injEq, Function.comp] at ih ⊢
      rw [List.all_cons, ih]; rfl
theorem are_steps_ok {d : D} (g : Good d) : F_are_steps [.v d] [] = .ok (.v (.bl (okSteps d))) [] := by
  cases g with
  | tup xs gx =>
    by_cases h8 : 0 < xs.length ∧ xs.length ≤ 8
    · unfold F_are_steps evFn il_are_steps
      have h81 : (0 : Int) < xs.length := by omega
      have h82 : (xs.length : Int) ≤ 8 := by omega
      have hsz : xs.length ≤ sizeLine := by rw [sizeLine_eq]; omega
      simp -dsimp only [List.length_cons, List.length_nil, Nat.reduceAdd, Nat.le_refl, and_self, if_true]
      rw [exs_nx (ρ1 := [.v (.tup xs), .u, .u, .u]) (φ1 := []) (by simp -dsimp [exs, ev, evs, evP, evC, evT, opn, op2, op1, peek, peeks, truX, truth, biD, cmpD, binD, evI, bindT, bindTs, frzX, frzXs, O.toD, X1.sl, ix_tup, ix_lst, ix_rls, atI_0, atI_1, atI_2, atI_3, gtD, modD, fdivD, intD, addD, subD, mulD, Ev.finish, powD, isiD, D.tyn, isT, evF_lst, evF_cat, evF_rep, evF_sl, evF_bil, evF_bis, evF_bid, evF_rng, evF_dnew, evF_ssi, ex1_ex, ex1_nm, ex1_tp, ex1_par, ex1_ret, ex1_ret0, ex1_ite, ex1_sti, leD, ltD, geD, lenD, isD, isnD, isB, D.items, neD, eqD, eqB, h8.1, h8.2, h81, h82, hsz])]
      have body : ∀ d ∈ xs, ∀ ρ, (∃ s, ρ = [.v (.tup xs), s, .u, .u]) → (stepOk d = true → ∃ ρ', turnF [F_is_between] (.nm 1) [
    .ite (.or (.not (.bi .isi [(.slot 1), (.glo "tuple" (.ty .tup))])) (.or (.cmp .NotEq (.bi .len [(.slot 1)]) (.con (.int 2))) (.not (.call 0 [(.ix (.slot 1) (.con (.int 0))), (.con (.int 1)), (.glo "MOST_DAYS" (.int 400))])))) [
      .ret (.con (.bl false))] [],
    .ite (.not (.call 0 [(.ix (.slot 1) (.con (.int 1))), (.con (.int 0)), (.glo "MOST_EACH" (.int 999))])) [
      .ret (.con (.bl false))] []] d ρ [] = .ok (.nx ρ') [] ∧ (∃ s, ρ' = [.v (.tup xs), s, .u, .u])) ∧ (stepOk d = false → turnF [F_is_between] (.nm 1) [
    .ite (.or (.not (.bi .isi [(.slot 1), (.glo "tuple" (.ty .tup))])) (.or (.cmp .NotEq (.bi .len [(.slot 1)]) (.con (.int 2))) (.not (.call 0 [(.ix (.slot 1) (.con (.int 0))), (.con (.int 1)), (.glo "MOST_DAYS" (.int 400))])))) [
      .ret (.con (.bl false))] [],
    .ite (.not (.call 0 [(.ix (.slot 1) (.con (.int 1))), (.con (.int 0)), (.glo "MOST_EACH" (.int 999))])) [
      .ret (.con (.bl false))] []] d ρ [] = .ok (.rt (.v (.bl false))) []) := by
        rintro d hd ρ ⟨s, rfl⟩
        have gd := gx d hd
        cases gd with
        | tup ys gy =>
          by_cases hl : ys.length = 2
          · obtain ⟨a, b, rfl⟩ : ∃ a b, ys = [a, b] := by
              match ys, hl with
              | [a, b], _ => exact ⟨a, b, rfl⟩
            have ga := gy a (by simp -dsimp [exs, ev, evs, evP, evC, evT, opn, op2, op1, peek, peeks, truX, truth, biD, cmpD, binD, evI, bindT, bindTs, frzX, frzXs, O.toD, X1.sl, ix_tup, ix_lst, ix_rls, atI_0, atI_1, atI_2, atI_3, gtD, modD, fdivD, intD, addD, subD, mulD, Ev.finish, powD, isiD, D.tyn, isT, evF_lst, evF_cat, evF_rep, evF_sl, evF_bil, evF_bis, evF_bid, evF_rng, evF_dnew, evF_ssi, ex1_ex, ex1_nm, ex1_tp, ex1_par, ex1_ret, ex1_ret0, ex1_ite, ex1_sti, leD, ltD, geD, lenD, isD, isnD, isB, D.items, neD, eqD, eqB])
            have gb := gy b (by simp -dsimp [exs, ev, evs, evP, evC, evT, opn, op2, op1, peek, peeks, truX, truth, biD, cmpD, binD, evI, bindT, bindTs, frzX, frzXs, O.toD, X1.sl, ix_tup, ix_lst, ix_rls, atI_0, atI_1, atI_2, atI_3, gtD, modD, fdivD, intD, addD, subD, mulD, Ev.finish, powD, isiD, D.tyn, isT, evF_lst, evF_cat, evF_rep, evF_sl, evF_bil, evF_bis, evF_bid, evF_rng, evF_dnew, evF_ssi, ex1_ex, ex1_nm, ex1_tp, ex1_par, ex1_ret, ex1_ret0, ex1_ite, ex1_sti, leD, ltD, geD, lenD, isD, isnD, isB, D.items, neD, eqD, eqB])
            cases h1 : btw a 1 400
            · refine ⟨fun h => (by simp -dsimp [exs, ev, evs, evP, evC, evT, opn, op2, op1, peek, peeks, truX, truth, biD, cmpD, binD, evI, bindT, bindTs, frzX, frzXs, O.toD, X1.sl, ix_tup, ix_lst, ix_rls, atI_0, atI_1, atI_2, atI_3, gtD, modD, fdivD, intD, addD, subD, mulD, Ev.finish, powD, isiD, D.tyn, isT, evF_lst, evF_cat, evF_rep, evF_sl, evF_bil, evF_bis, evF_bid, evF_rng, evF_dnew, evF_ssi, ex1_ex, ex1_nm, ex1_tp, ex1_par, ex1_ret, ex1_ret0, ex1_ite, ex1_sti, leD, ltD, geD, lenD, isD, isnD, isB, D.items, neD, eqD, eqB, stepOk, h1] at h), fun _ => ?_⟩
              simp -dsimp [exs, ev, evs, evP, evC, evT, opn, op2, op1, peek, peeks, truX, truth, biD, cmpD, binD, evI, bindT, bindTs, frzX, frzXs, O.toD, X1.sl, ix_tup, ix_lst, ix_rls, atI_0, atI_1, atI_2, atI_3, gtD, modD, fdivD, intD, addD, subD, mulD, Ev.finish, powD, isiD, D.tyn, isT, evF_lst, evF_cat, evF_rep, evF_sl, evF_bil, evF_bis, evF_bid, evF_rng, evF_dnew, evF_ssi, ex1_ex, ex1_nm, ex1_tp, ex1_par, ex1_ret, ex1_ret0, ex1_ite, ex1_sti, leD, ltD, geD, lenD, isD, isnD, isB, D.items, neD, eqD, eqB, turnF, is_between_call ga, h1]
            · cases h2 : btw b 0 999
              · refine ⟨fun h => (by simp -dsimp [exs, ev, evs, evP, evC, evT, opn, op2, op1, peek, peeks, truX, truth, biD, cmpD, binD, evI, bindT, bindTs, frzX, frzXs, O.toD, X1.sl, ix_tup, ix_lst, ix_rls, atI_0, atI_1, atI_2, atI_3, gtD, modD, fdivD, intD, addD, subD, mulD, Ev.finish, powD, isiD, D.tyn, isT, evF_lst, evF_cat, evF_rep, evF_sl, evF_bil, evF_bis, evF_bid, evF_rng, evF_dnew, evF_ssi, ex1_ex, ex1_nm, ex1_tp, ex1_par, ex1_ret, ex1_ret0, ex1_ite, ex1_sti, leD, ltD, geD, lenD, isD, isnD, isB, D.items, neD, eqD, eqB, stepOk, h2] at h), fun _ => ?_⟩
                simp -dsimp [exs, ev, evs, evP, evC, evT, opn, op2, op1, peek, peeks, truX, truth, biD, cmpD, binD, evI, bindT, bindTs, frzX, frzXs, O.toD, X1.sl, ix_tup, ix_lst, ix_rls, atI_0, atI_1, atI_2, atI_3, gtD, modD, fdivD, intD, addD, subD, mulD, Ev.finish, powD, isiD, D.tyn, isT, evF_lst, evF_cat, evF_rep, evF_sl, evF_bil, evF_bis, evF_bid, evF_rng, evF_dnew, evF_ssi, ex1_ex, ex1_nm, ex1_tp, ex1_par, ex1_ret, ex1_ret0, ex1_ite, ex1_sti, leD, ltD, geD, lenD, isD, isnD, isB, D.items, neD, eqD, eqB, turnF, is_between_call ga, is_between_call gb, h1, h2]
              · refine ⟨fun _ => ⟨[.v (.tup xs), .v (.tup [a, b]), .u, .u], ?_, _, rfl⟩, fun h => by simp -dsimp [exs, ev, evs, evP, evC, evT, opn, op2, op1, peek, peeks, truX, truth, biD, cmpD, binD, evI, bindT, bindTs, frzX, frzXs, O.toD, X1.sl, ix_tup, ix_lst, ix_rls, atI_0, atI_1, atI_2, atI_3, gtD, modD, fdivD, intD, addD, subD, mulD, Ev.finish, powD, isiD, D.tyn, isT, evF_lst, evF_cat, evF_rep, evF_sl, evF_bil, evF_bis, evF_bid, evF_rng, evF_dnew, evF_ssi, ex1_ex, ex1_nm, ex1_tp, ex1_par, ex1_ret, ex1_ret0, ex1_ite, ex1_sti, leD, ltD, geD, lenD, isD, isnD, isB, D.items, neD, eqD, eqB, stepOk, h1, h2] at h⟩
                simp -dsimp [exs, ev, evs, evP, evC, evT, opn, op2, op1, peek, peeks, truX, truth, biD, cmpD, binD, evI, bindT, bindTs, frzX, frzXs, O.toD, X1.sl, ix_tup, ix_lst, ix_rls, atI_0, atI_1, atI_2, atI_3, gtD, modD, fdivD, intD, addD, subD, mulD, Ev.finish, powD, isiD, D.tyn, isT, evF_lst, evF_cat, evF_rep, evF_sl, evF_bil, evF_bis, evF_bid, evF_rng, evF_dnew, evF_ssi, ex1_ex, ex1_nm, ex1_tp, ex1_par, ex1_ret, ex1_ret0, ex1_ite, ex1_sti, leD, ltD, geD, lenD, isD, isnD, isB, D.items, neD, eqD, eqB, turnF, is_between_call ga, is_between_call gb, h1, h2]
          · have h0 : stepOk (.tup ys) = false := by
              unfold stepOk; split
              · rename_i heq; cases heq; exact absurd rfl hl
              · rfl
            refine ⟨fun h => (by rw [h0] at h; cases h), fun _ => ?_⟩
            have : ¬ (ys.length : Int) = 2 := by omega
            simp -dsimp [exs, ev, evs, evP, evC, evT, opn, op2, op1, peek, peeks, truX, truth, biD, cmpD, binD, evI, bindT, bindTs, frzX, frzXs, O.toD, X1.sl, ix_tup, ix_lst, ix_rls, atI_0, atI_1, atI_2, atI_3, gtD, modD, fdivD, intD, addD, subD, mulD, Ev.finish, powD, isiD, D.tyn, isT, evF_lst, evF_cat, evF_rep, evF_sl, evF_bil, evF_bis, evF_bid, evF_rng, evF_dnew, evF_ssi, ex1_ex, ex1_nm, ex1_tp, ex1_par, ex1_ret, ex1_ret0, ex1_ite, ex1_sti, leD, ltD, geD, lenD, isD, isnD, isB, D.items, neD, eqD, eqB, turnF, this]
        | non => exact ⟨fun h => (by cases h), fun _ => by simp -dsimp [exs, ev, evs, evP, evC, evT, opn, op2, op1, peek, peeks, truX, truth, biD, cmpD, binD, evI, bindT, bindTs, frzX, frzXs, O.toD, X1.sl, ix_tup, ix_lst, ix_rls, atI_0, atI_1, atI_2, atI_3, gtD, modD, fdivD, intD, addD, subD, mulD, Ev.finish, powD, isiD, D.tyn, isT, evF_lst, evF_cat, evF_rep, evF_sl, evF_bil, evF_bis, evF_bid, evF_rng, evF_dnew, evF_ssi, ex1_ex, ex1_nm, ex1_tp, ex1_par, ex1_ret, ex1_ret0, ex1_ite, ex1_sti, leD, ltD, geD, lenD, isD, isnD, isB, D.items, neD, eqD, eqB, turnF]⟩
        | bl b => exact ⟨fun h => (by cases h), fun _ => by simp -dsimp [exs, ev, evs, evP, evC, evT, opn, op2, op1, peek, peeks, truX, truth, biD, cmpD, binD, evI, bindT, bindTs, frzX, frzXs, O.toD, X1.sl, ix_tup, ix_lst, ix_rls, atI_0, atI_1, atI_2, atI_3, gtD, modD, fdivD, intD, addD, subD, mulD, Ev.finish, powD, isiD, D.tyn, isT, evF_lst, evF_cat, evF_rep, evF_sl, evF_bil, evF_bis, evF_bid, evF_rng, evF_dnew, evF_ssi, ex1_ex, ex1_nm, ex1_tp, ex1_par, ex1_ret, ex1_ret0, ex1_ite, ex1_sti, leD, ltD, geD, lenD, isD, isnD, isB, D.items, neD, eqD, eqB, turnF]⟩
        | int b => exact ⟨fun h => (by cases h), fun _ => by simp -dsimp [exs, ev, evs, evP, evC, evT, opn, op2, op1, peek, peeks, truX, truth, biD, cmpD, binD, evI, bindT, bindTs, frzX, frzXs, O.toD, X1.sl, ix_tup, ix_lst, ix_rls, atI_0, atI_1, atI_2, atI_3, gtD, modD, fdivD, intD, addD, subD, mulD, Ev.finish, powD, isiD, D.tyn, isT, evF_lst, evF_cat, evF_rep, evF_sl, evF_bil, evF_bis, evF_bid, evF_rng, evF_dnew, evF_ssi, ex1_ex, ex1_nm, ex1_tp, ex1_par, ex1_ret, ex1_ret0, ex1_ite, ex1_sti, leD, ltD, geD, lenD, isD, isnD, isB, D.items, neD, eqD, eqB, turnF]⟩
        | str b => exact ⟨fun h => (by cases h), fun _ => by simp -dsimp [exs, ev, evs, evP, evC, evT, opn, op2, op1, peek, peeks, truX, truth, biD, cmpD, binD, evI, bindT, bindTs, frzX, frzXs, O.toD, X1.sl, ix_tup, ix_lst, ix_rls, atI_0, atI_1, atI_2, atI_3, gtD, modD, fdivD, intD, addD, subD, mulD, Ev.finish, powD, isiD, D.tyn, isT, evF_lst, evF_cat, evF_rep, evF_sl, evF_bil, evF_bis, evF_bid, evF_rng, evF_dnew, evF_ssi, ex1_ex, ex1_nm, ex1_tp, ex1_par, ex1_ret, ex1_ret0, ex1_ite, ex1_sti, leD, ltD, geD, lenD, isD, isnD, isB, D.items, neD, eqD, eqB, turnF]⟩
        | lst b => exact ⟨fun h => (by cases h), fun _ => by simp -dsimp [exs, ev, evs, evP, evC, evT, opn, op2, op1, peek, peeks, truX, truth, biD, cmpD, binD, evI, bindT, bindTs, frzX, frzXs, O.toD, X1.sl, ix_tup, ix_lst, ix_rls, atI_0, atI_1, atI_2, atI_3, gtD, modD, fdivD, intD, addD, subD, mulD, Ev.finish, powD, isiD, D.tyn, isT, evF_lst, evF_cat, evF_rep, evF_sl, evF_bil, evF_bis, evF_bid, evF_rng, evF_dnew, evF_ssi, ex1_ex, ex1_nm, ex1_tp, ex1_par, ex1_ret, ex1_ret0, ex1_ite, ex1_sti, leD, ltD, geD, lenD, isD, isnD, isB, D.items, neD, eqD, eqB, turnF]⟩
        | dct b => exact ⟨fun h => (by cases h), fun _ => by simp -dsimp [exs, ev, evs, evP, evC, evT, opn, op2, op1, peek, peeks, truX, truth, biD, cmpD, binD, evI, bindT, bindTs, frzX, frzXs, O.toD, X1.sl, ix_tup, ix_lst, ix_rls, atI_0, atI_1, atI_2, atI_3, gtD, modD, fdivD, intD, addD, subD, mulD, Ev.finish, powD, isiD, D.tyn, isT, evF_lst, evF_cat, evF_rep, evF_sl, evF_bil, evF_bis, evF_bid, evF_rng, evF_dnew, evF_ssi, ex1_ex, ex1_nm, ex1_tp, ex1_par, ex1_ret, ex1_ret0, ex1_ite, ex1_sti, leD, ltD, geD, lenD, isD, isnD, isB, D.items, neD, eqD, eqB, turnF]⟩
      have hI : evI [F_is_between] (.seq (.slot 0)) [.v (.tup xs), .u, .u, .u] [] = .ok ⟨xs, false, []⟩ [] := by simp -dsimp [exs, ev, evs, evP, evC, evT, opn, op2, op1, peek, peeks, truX, truth, biD, cmpD, binD, evI, bindT, bindTs, frzX, frzXs, O.toD, X1.sl, ix_tup, ix_lst, ix_rls, atI_0, atI_1, atI_2, atI_3, gtD, modD, fdivD, intD, addD, subD, mulD, Ev.finish, powD, isiD, D.tyn, isT, evF_lst, evF_cat, evF_rep, evF_sl, evF_bil, evF_bis, evF_bid, evF_rng, evF_dnew, evF_ssi, ex1_ex, ex1_nm, ex1_tp, ex1_par, ex1_ret, ex1_ret0, ex1_ite, ex1_sti, leD, ltD, geD, lenD, isD, isnD, isB, D.items, neD, eqD, eqB, walkX, D.seqs]
      obtain ⟨hA, hB⟩ := forL_chk xs body [.v (.tup xs), .u, .u, .u] ⟨_, rfl⟩
      cases ha : xs.all stepOk with
      | false =>
        rw [exs_rt (ex1_for hI (hB ha))]
        have : okSteps (.tup xs) = false := by simp -dsimp [exs, ev, evs, evP, evC, evT, opn, op2, op1, peek, peeks, truX, truth, biD, cmpD, binD, evI, bindT, bindTs, frzX, frzXs, O.toD, X1.sl, ix_tup, ix_lst, ix_rls, atI_0, atI_1, atI_2, atI_3, gtD, modD, fdivD, intD, addD, subD, mulD, Ev.finish, powD, isiD, D.tyn, isT, evF_lst, evF_cat, evF_rep, evF_sl, evF_bil, evF_bis, evF_bid, evF_rng, evF_dnew, evF_ssi, ex1_ex, ex1_nm, ex1_tp, ex1_par, ex1_ret, ex1_ret0, ex1_ite, ex1_sti, leD, ltD, geD, lenD, isD, isnD, isB, D.items, neD, eqD, eqB, okSteps, ha]
        rw [this]
        rfl
      | true =>
        obtain ⟨ρ', e1, s, rfl⟩ := hA ha
        rw [exs_nx (ex1_for hI e1)]
        have hw : unlock ⟨xs, false, []⟩ [] = [] := rfl
        rw [hw]
        clear body hA hB e1 hI
        have hz := adj_zip xs (fun d hd => List.all_eq_true.mp ha d hd)
        obtain ⟨x, r, rfl⟩ : ∃ x r, xs = x :: r := by
          cases xs with
          | nil => exact absurd h8.1 (by simp -dsimp [exs, ev, evs, evP, evC, evT, opn, op2, op1, peek, peeks, truX, truth, biD, cmpD, binD, evI, bindT, bindTs, frzX, frzXs, O.toD, X1.sl, ix_tup, ix_lst, ix_rls, atI_0, atI_1, atI_2, atI_3, gtD, modD, fdivD, intD, addD, subD, mulD, Ev.finish, powD, isiD, D.tyn, isT, evF_lst, evF_cat, evF_rep, evF_sl, evF_bil, evF_bis, evF_bid, evF_rng, evF_dnew, evF_ssi, ex1_ex, ex1_nm, ex1_tp, ex1_par, ex1_ret, ex1_ret0, ex1_ite, ex1_sti, leD, ltD, geD, lenD, isD, isnD, isB, D.items, neD, eqD, eqB])
          | cons x r => exact ⟨x, r, rfl⟩
        obtain ⟨a, b, rfl, a1, a2, b1, b2⟩ := stepOk_inv (List.all_eq_true.mp ha x List.mem_cons_self)
        have hr : (((D.tup [.int a, .int b]) :: r).length : Int) = r.length + 1 := by simp -dsimp [exs, ev, evs, evP, evC, evT, opn, op2, op1, peek, peeks, truX, truth, biD, cmpD, binD, evI, bindT, bindTs, frzX, frzXs, O.toD, X1.sl, ix_tup, ix_lst, ix_rls, atI_0, atI_1, atI_2, atI_3, gtD, modD, fdivD, intD, addD, subD, mulD, Ev.finish, powD, isiD, D.tyn, isT, evF_lst, evF_cat, evF_rep, evF_sl, evF_bil, evF_bis, evF_bid, evF_rng, evF_dnew, evF_ssi, ex1_ex, ex1_nm, ex1_tp, ex1_par, ex1_ret, ex1_ret0, ex1_ite, ex1_sti, leD, ltD, geD, lenD, isD, isnD, isB, D.items, neD, eqD, eqB]
        have hsl : slD (.tup (.tup [.int a, .int b] :: r)) (some 1) none = some (.tup r) := by
          show some (D.tup (cut (.tup [.int a, .int b] :: r) (some ((1 : Nat) : Int)) none)) = _
          rw [cut_fr]; rfl
        have hcomp : evF [F_is_between] (.comp [2, 3] (.tp [(.nm 2), (.nm 3)]) (.zip (.slot 0) (.sl (.slot 0) (some (.con (.int 1))) none)) none (.cmp .Lt (.ix (.slot 2) (.con (.int 0))) (.ix (.slot 3) (.con (.int 0))))) [.v (.tup (.tup [.int a, .int b] :: r)), s, .u, .u] [] = .ok (.lst ((zipL (.tup [.int a, .int b] :: r) r).filterMap ltW)) [] := by
          refine evF_comp (wk := ⟨zipL (.tup [.int a, .int b] :: r) r, true, []⟩) ?_ rfl ?_ ?_
          · simp -dsimp [exs, ev, evs, evP, evC, evT, opn, op2, op1, peek, peeks, truX, truth, biD, cmpD, binD, evI, bindT, bindTs, frzX, frzXs, O.toD, X1.sl, ix_tup, ix_lst, ix_rls, atI_0, atI_1, atI_2, atI_3, gtD, modD, fdivD, intD, addD, subD, mulD, Ev.finish, powD, isiD, D.tyn, isT, evF_lst, evF_cat, evF_rep, evF_sl, evF_bil, evF_bis, evF_bid, evF_rng, evF_dnew, evF_ssi, ex1_ex, ex1_nm, ex1_tp, ex1_par, ex1_ret, ex1_ret0, ex1_ite, ex1_sti, leD, ltD, geD, lenD, isD, isnD, isB, D.items, neD, eqD, eqB, walkX, D.seqs, hsl]
          · refine Nat.le_trans (zipL_len _ _) ?_
            rw [sizeLine_eq]; simp -dsimp [exs, ev, evs, evP, evC, evT, opn, op2, op1, peek, peeks, truX, truth, biD, cmpD, binD, evI, bindT, bindTs, frzX, frzXs, O.toD, X1.sl, ix_tup, ix_lst, ix_rls, atI_0, atI_1, atI_2, atI_3, gtD, modD, fdivD, intD, addD, subD, mulD, Ev.finish, powD, isiD, D.tyn, isT, evF_lst, evF_cat, evF_rep, evF_sl, evF_bil, evF_bis, evF_bid, evF_rng, evF_dnew, evF_ssi, ex1_ex, ex1_nm, ex1_tp, ex1_par, ex1_ret, ex1_ret0, ex1_ite, ex1_sti, leD, ltD, geD, lenD, isD, isnD, isB, D.items, neD, eqD, eqB] at h8 ⊢; omega
          · intro d hd
            obtain ⟨u, v, rfl, hu, hv⟩ := zipL_mem hd
            obtain ⟨u0, u1, rfl, _⟩ := stepOk_inv (List.all_eq_true.mp ha u hu)
            obtain ⟨v0, v1, rfl, _⟩ := stepOk_inv (List.all_eq_true.mp ha v (List.mem_cons_of_mem _ hv))
            simp -dsimp [exs, ev, evs, evP, evC, evT, opn, op2, op1, peek, peeks, truX, truth, biD, cmpD, binD, evI, bindT, bindTs, frzX, frzXs, O.toD, X1.sl, ix_tup, ix_lst, ix_rls, atI_0, atI_1, atI_2, atI_3, gtD, modD, fdivD, intD, addD, subD, mulD, Ev.finish, powD, isiD, D.tyn, isT, evF_lst, evF_cat, evF_rep, evF_sl, evF_bil, evF_bis, evF_bid, evF_rng, evF_dnew, evF_ssi, ex1_ex, ex1_nm, ex1_tp, ex1_par, ex1_ret, ex1_ret0, ex1_ite, ex1_sti, leD, ltD, geD, lenD, isD, isnD, isB, D.items, neD, eqD, eqB, one1, wipeR, ltW, own]
            rfl
        rw [show (r : List D) = (.tup [.int a, .int b] :: r).tail from rfl] at hcomp
        simp -dsimp only [List.tail_cons] at hz hcomp
        have hk : okSteps (.tup (.tup [.int a, .int b] :: r)) = (decide (a = 1) && adj ((D.tup [.int a, .int b] :: r).map own)) := by
          simp -dsimp only [okSteps, ha, Bool.true_and]
          rw [decide_eq_true (by omega : 1 ≤ (D.tup [.int a, .int b] :: r).length), decide_eq_true h8.2]
          simp -dsimp [exs, ev, evs, evP, evC, evT, opn, op2, op1, peek, peeks, truX, truth, biD, cmpD, binD, evI, bindT, bindTs, frzX, frzXs, O.toD, X1.sl, ix_tup, ix_lst, ix_rls, atI_0, atI_1, atI_2, atI_3, gtD, modD, fdivD, intD, addD, subD, mulD, Ev.finish, powD, isiD, D.tyn, isT, evF_lst, evF_cat, evF_rep, evF_sl, evF_bil, evF_bis, evF_bid, evF_rng, evF_dnew, evF_ssi, ex1_ex, ex1_nm, ex1_tp, ex1_par, ex1_ret, ex1_ret0, ex1_ite, ex1_sti, leD, ltD, geD, lenD, isD, isnD, isB, D.items, neD, eqD, eqB, own]
        rw [hk]
        by_cases h1 : a = 1
        · subst h1
          obtain ⟨bs, e1, e2⟩ := Option.map_eq_some_iff.mp hz
          simp -dsimp [exs, ev, evs, evP, evC, evT, opn, op2, op1, peek, peeks, truX, truth, biD, cmpD, binD, evI, bindT, bindTs, frzX, frzXs, O.toD, X1.sl, ix_tup, ix_lst, ix_rls, atI_0, atI_1, atI_2, atI_3, gtD, modD, fdivD, intD, addD, subD, mulD, Ev.finish, powD, isiD, D.tyn, isT, evF_lst, evF_cat, evF_rep, evF_sl, evF_bil, evF_bis, evF_bid, evF_rng, evF_dnew, evF_ssi, ex1_ex, ex1_nm, ex1_tp, ex1_par, ex1_ret, ex1_ret0, ex1_ite, ex1_sti, leD, ltD, geD, lenD, isD, isnD, isB, D.items, neD, eqD, eqB, hcomp, allD, e1, e2, -List.map_cons]
        · simp -dsimp [exs, ev, evs, evP, evC, evT, opn, op2, op1, peek, peeks, truX, truth, biD, cmpD, binD, evI, bindT, bindTs, frzX, frzXs, O.toD, X1.sl, ix_tup, ix_lst, ix_rls, atI_0, atI_1, atI_2, atI_3, gtD, modD, fdivD, intD, addD, subD, mulD, Ev.finish, powD, isiD, D.tyn, isT, evF_lst, evF_cat, evF_rep, evF_sl, evF_bil, evF_bis, evF_bid, evF_rng, evF_dnew, evF_ssi, ex1_ex, ex1_nm, ex1_tp, ex1_par, ex1_ret, ex1_ret0, ex1_ite, ex1_sti, leD, ltD, geD, lenD, isD, isnD, isB, D.items, neD, eqD, eqB, h1]
    · unfold F_are_steps evFn il_are_steps
      have : okSteps (.tup xs) = false := by
        simp -dsimp only [okSteps, Bool.and_eq_false_iff, decide_eq_false_iff_not]
        omega
      rw [this]
      by_cases h1 : 0 < xs.length
      · have h2 : ¬ xs.length ≤ 8 := by omega
        have h3 : ¬ (xs.length : Int) ≤ 8 := by omega
        simp -dsimp [exs, ev, evs, evP, evC, evT, opn, op2, op1, peek, peeks, truX, truth, biD, cmpD, binD, evI, bindT, bindTs, frzX, frzXs, O.toD, X1.sl, ix_tup, ix_lst, ix_rls, atI_0, atI_1, atI_2, atI_3, gtD, modD, fdivD, intD, addD, subD, mulD, Ev.finish, powD, isiD, D.tyn, isT, evF_lst, evF_cat, evF_rep, evF_sl, evF_bil, evF_bis, evF_bid, evF_rng, evF_dnew, evF_ssi, ex1_ex, ex1_nm, ex1_tp, ex1_par, ex1_ret, ex1_ret0, ex1_ite, ex1_sti, leD, ltD, geD, lenD, isD, isnD, isB, D.items, neD, eqD, eqB, h1, h2, h3]
      · simp -dsimp [exs, ev, evs, evP, evC, evT, opn, op2, op1, peek, peeks, truX, truth, biD, cmpD, binD, evI, bindT, bindTs, frzX, frzXs, O.toD, X1.sl, ix_tup, ix_lst, ix_rls, atI_0, atI_1, atI_2, atI_3, gtD, modD, fdivD, intD, addD, subD, mulD, Ev.finish, powD, isiD, D.tyn, isT, evF_lst, evF_cat, evF_rep, evF_sl, evF_bil, evF_bis, evF_bid, evF_rng, evF_dnew, evF_ssi, ex1_ex, ex1_nm, ex1_tp, ex1_par, ex1_ret, ex1_ret0, ex1_ite, ex1_sti, leD, ltD, geD, lenD, isD, isnD, isB, D.items, neD, eqD, eqB, h1]
  | non => rfl
  | bl b => rfl
  | int i => rfl
  | str s => rfl
  | lst xs => rfl
  | dct ks vs => rfl
theorem are_steps_call {d : D} (g : Good d) (φ : List O) : callX F_are_steps [.v d] φ = .ok (.v (.bl (okSteps d))) φ := callX_a1 (are_steps_ok g)
theorem is_scale_ok {d : D} (g : Good d) : F_is_scale [.v d] [] = .ok (.v (.bl (okScale d))) [] := by
  unfold F_is_scale evFn il_is_scale
  cases g with
  | tup xs gx =>
    by_cases h3 : xs.length = 3
    · obtain ⟨a, b, c, rfl⟩ : ∃ a b c, xs = [a, b, c] := by
        match xs, h3 with
        | [a, b, c], _ => exact ⟨a, b, c, rfl⟩
      have ga := gx a (by simp -dsimp [exs, ev, evs, evP, evC, evT, opn, op2, op1, peek, peeks, truX, truth, biD, cmpD, binD, evI, bindT, bindTs, frzX, frzXs, O.toD, X1.sl, ix_tup, ix_lst, ix_rls, atI_0, atI_1, atI_2, atI_3, gtD, modD, fdivD, intD, addD, subD, mulD, Ev.finish, powD, isiD, D.tyn, isT, evF_lst, evF_cat, evF_rep, evF_sl, evF_bil, evF_bis, evF_bid, evF_rng, evF_dnew, evF_ssi, ex1_ex, ex1_nm, ex1_tp, ex1_par, ex1_ret, ex1_ret0, ex1_ite, ex1_sti, leD, ltD, geD, lenD, isD, isnD, isB, D.items, neD, eqD, eqB])
      have gb := gx b (by simp -dsimp [exs, ev, evs, evP, evC, evT, opn, op2, op1, peek, peeks, truX, truth, biD, cmpD, binD, evI, bindT, bindTs, frzX, frzXs, O.toD, X1.sl, ix_tup, ix_lst, ix_rls, atI_0, atI_1, atI_2, atI_3, gtD, modD, fdivD, intD, addD, subD, mulD, Ev.finish, powD, isiD, D.tyn, isT, evF_lst, evF_cat, evF_rep, evF_sl, evF_bil, evF_bis, evF_bid, evF_rng, evF_dnew, evF_ssi, ex1_ex, ex1_nm, ex1_tp, ex1_par, ex1_ret, ex1_ret0, ex1_ite, ex1_sti, leD, ltD, geD, lenD, isD, isnD, isB, D.items, neD, eqD, eqB])
      have gc := gx c (by simp -dsimp [exs, ev, evs, evP, evC, evT, opn, op2, op1, peek, peeks, truX, truth, biD, cmpD, binD, evI, bindT, bindTs, frzX, frzXs, O.toD, X1.sl, ix_tup, ix_lst, ix_rls, atI_0, atI_1, atI_2, atI_3, gtD, modD, fdivD, intD, addD, subD, mulD, Ev.finish, powD, isiD, D.tyn, isT, evF_lst, evF_cat, evF_rep, evF_sl, evF_bil, evF_bis, evF_bid, evF_rng, evF_dnew, evF_ssi, ex1_ex, ex1_nm, ex1_tp, ex1_par, ex1_ret, ex1_ret0, ex1_ite, ex1_sti, leD, ltD, geD, lenD, isD, isnD, isB, D.items, neD, eqD, eqB])
      cases h1 : btw a 0 99
      · simp -dsimp [exs, ev, evs, evP, evC, evT, opn, op2, op1, peek, peeks, truX, truth, biD, cmpD, binD, evI, bindT, bindTs, frzX, frzXs, O.toD, X1.sl, ix_tup, ix_lst, ix_rls, atI_0, atI_1, atI_2, atI_3, gtD, modD, fdivD, intD, addD, subD, mulD, Ev.finish, powD, isiD, D.tyn, isT, evF_lst, evF_cat, evF_rep, evF_sl, evF_bil, evF_bis, evF_bid, evF_rng, evF_dnew, evF_ssi, ex1_ex, ex1_nm, ex1_tp, ex1_par, ex1_ret, ex1_ret0, ex1_ite, ex1_sti, leD, ltD, geD, lenD, isD, isnD, isB, D.items, neD, eqD, eqB, is_between_call ga, okScale, h1]
      · cases h2 : okSteps b
        · simp -dsimp [exs, ev, evs, evP, evC, evT, opn, op2, op1, peek, peeks, truX, truth, biD, cmpD, binD, evI, bindT, bindTs, frzX, frzXs, O.toD, X1.sl, ix_tup, ix_lst, ix_rls, atI_0, atI_1, atI_2, atI_3, gtD, modD, fdivD, intD, addD, subD, mulD, Ev.finish, powD, isiD, D.tyn, isT, evF_lst, evF_cat, evF_rep, evF_sl, evF_bil, evF_bis, evF_bid, evF_rng, evF_dnew, evF_ssi, ex1_ex, ex1_nm, ex1_tp, ex1_par, ex1_ret, ex1_ret0, ex1_ite, ex1_sti, leD, ltD, geD, lenD, isD, isnD, isB, D.items, neD, eqD, eqB, is_between_call ga, are_steps_call gb, okScale, h1, h2]
        · cases gc with
          | non => simp -dsimp [exs, ev, evs, evP, evC, evT, opn, op2, op1, peek, peeks, truX, truth, biD, cmpD, binD, evI, bindT, bindTs, frzX, frzXs, O.toD, X1.sl, ix_tup, ix_lst, ix_rls, atI_0, atI_1, atI_2, atI_3, gtD, modD, fdivD, intD, addD, subD, mulD, Ev.finish, powD, isiD, D.tyn, isT, evF_lst, evF_cat, evF_rep, evF_sl, evF_bil, evF_bis, evF_bid, evF_rng, evF_dnew, evF_ssi, ex1_ex, ex1_nm, ex1_tp, ex1_par, ex1_ret, ex1_ret0, ex1_ite, ex1_sti, leD, ltD, geD, lenD, isD, isnD, isB, D.items, neD, eqD, eqB, is_between_call ga, are_steps_call gb, okScale, h1, h2, noneOr]
          | bl x => simp -dsimp [exs, ev, evs, evP, evC, evT, opn, op2, op1, peek, peeks, truX, truth, biD, cmpD, binD, evI, bindT, bindTs, frzX, frzXs, O.toD, X1.sl, ix_tup, ix_lst, ix_rls, atI_0, atI_1, atI_2, atI_3, gtD, modD, fdivD, intD, addD, subD, mulD, Ev.finish, powD, isiD, D.tyn, isT, evF_lst, evF_cat, evF_rep, evF_sl, evF_bil, evF_bis, evF_bid, evF_rng, evF_dnew, evF_ssi, ex1_ex, ex1_nm, ex1_tp, ex1_par, ex1_ret, ex1_ret0, ex1_ite, ex1_sti, leD, ltD, geD, lenD, isD, isnD, isB, D.items, neD, eqD, eqB, is_between_call ga, are_steps_call gb, is_between_call (.bl x), okScale, h1, h2, noneOr]
          | int x => simp -dsimp [exs, ev, evs, evP, evC, evT, opn, op2, op1, peek, peeks, truX, truth, biD, cmpD, binD, evI, bindT, bindTs, frzX, frzXs, O.toD, X1.sl, ix_tup, ix_lst, ix_rls, atI_0, atI_1, atI_2, atI_3, gtD, modD, fdivD, intD, addD, subD, mulD, Ev.finish, powD, isiD, D.tyn, isT, evF_lst, evF_cat, evF_rep, evF_sl, evF_bil, evF_bis, evF_bid, evF_rng, evF_dnew, evF_ssi, ex1_ex, ex1_nm, ex1_tp, ex1_par, ex1_ret, ex1_ret0, ex1_ite, ex1_sti, leD, ltD, geD, lenD, isD, isnD, isB, D.items, neD, eqD, eqB, is_between_call ga, are_steps_call gb, is_between_call (.int x), okScale, h1, h2, noneOr]
          | str s => simp -dsimp [exs, ev, evs, evP, evC, evT, opn, op2, op1, peek, peeks, truX, truth, biD, cmpD, binD, evI, bindT, bindTs, frzX, frzXs, O.toD, X1.sl, ix_tup, ix_lst, ix_rls, atI_0, atI_1, atI_2, atI_3, gtD, modD, fdivD, intD, addD, subD, mulD, Ev.finish, powD, isiD, D.tyn, isT, evF_lst, evF_cat, evF_rep, evF_sl, evF_bil, evF_bis, evF_bid, evF_rng, evF_dnew, evF_ssi, ex1_ex, ex1_nm, ex1_tp, ex1_par, ex1_ret, ex1_ret0, ex1_ite, ex1_sti, leD, ltD, geD, lenD, isD, isnD, isB, D.items, neD, eqD, eqB, is_between_call ga, are_steps_call gb, is_between_call (.str s), okScale, h1, h2, noneOr]
          | tup s h => simp -dsimp [exs, ev, evs, evP, evC, evT, opn, op2, op1, peek, peeks, truX, truth, biD, cmpD, binD, evI, bindT, bindTs, frzX, frzXs, O.toD, X1.sl, ix_tup, ix_lst, ix_rls, atI_0, atI_1, atI_2, atI_3, gtD, modD, fdivD, intD, addD, subD, mulD, Ev.finish, powD, isiD, D.tyn, isT, evF_lst, evF_cat, evF_rep, evF_sl, evF_bil, evF_bis, evF_bid, evF_rng, evF_dnew, evF_ssi, ex1_ex, ex1_nm, ex1_tp, ex1_par, ex1_ret, ex1_ret0, ex1_ite, ex1_sti, leD, ltD, geD, lenD, isD, isnD, isB, D.items, neD, eqD, eqB, is_between_call ga, are_steps_call gb, is_between_call (.tup s h), okScale, h1, h2, noneOr]
          | lst s => simp -dsimp [exs, ev, evs, evP, evC, evT, opn, op2, op1, peek, peeks, truX, truth, biD, cmpD, binD, evI, bindT, bindTs, frzX, frzXs, O.toD, X1.sl, ix_tup, ix_lst, ix_rls, atI_0, atI_1, atI_2, atI_3, gtD, modD, fdivD, intD, addD, subD, mulD, Ev.finish, powD, isiD, D.tyn, isT, evF_lst, evF_cat, evF_rep, evF_sl, evF_bil, evF_bis, evF_bid, evF_rng, evF_dnew, evF_ssi, ex1_ex, ex1_nm, ex1_tp, ex1_par, ex1_ret, ex1_ret0, ex1_ite, ex1_sti, leD, ltD, geD, lenD, isD, isnD, isB, D.items, neD, eqD, eqB, is_between_call ga, are_steps_call gb, is_between_call (.lst s), okScale, h1, h2, noneOr]
          | dct s h => simp -dsimp [exs, ev, evs, evP, evC, evT, opn, op2, op1, peek, peeks, truX, truth, biD, cmpD, binD, evI, bindT, bindTs, frzX, frzXs, O.toD, X1.sl, ix_tup, ix_lst, ix_rls, atI_0, atI_1, atI_2, atI_3, gtD, modD, fdivD, intD, addD, subD, mulD, Ev.finish, powD, isiD, D.tyn, isT, evF_lst, evF_cat, evF_rep, evF_sl, evF_bil, evF_bis, evF_bid, evF_rng, evF_dnew, evF_ssi, ex1_ex, ex1_nm, ex1_tp, ex1_par, ex1_ret, ex1_ret0, ex1_ite, ex1_sti, leD, ltD, geD, lenD, isD, isnD, isB, D.items, neD, eqD, eqB, is_between_call ga, are_steps_call gb, is_between_call (.dct s h), okScale, h1, h2, noneOr]
    · have h0 : okScale (.tup xs) = false := by
        unfold okScale; split
        · rename_i heq; cases heq; exact absurd rfl h3
        · rfl
      have h4 : ¬ (xs.length : Int) = 3 := by omega
      rw [h0]
      simp -dsimp [exs, ev, evs, evP, evC, evT, opn, op2, op1, peek, peeks, truX, truth, biD, cmpD, binD, evI, bindT, bindTs, frzX, frzXs, O.toD, X1.sl, ix_tup, ix_lst, ix_rls, atI_0, atI_1, atI_2, atI_3, gtD, modD, fdivD, intD, addD, subD, mulD, Ev.finish, powD, isiD, D.tyn, isT, evF_lst, evF_cat, evF_rep, evF_sl, evF_bil, evF_bis, evF_bid, evF_rng, evF_dnew, evF_ssi, ex1_ex, ex1_nm, ex1_tp, ex1_par, ex1_ret, ex1_ret0, ex1_ite, ex1_sti, leD, ltD, geD, lenD, isD, isnD, isB, D.items, neD, eqD, eqB, h4]
  | _ => rfl
theorem is_scale_call {d : D} (g : Good d) (φ : List O) : callX F_is_scale [.v d] φ = .ok (.v (.bl (okScale d))) φ := callX_a1 (is_scale_ok g)
end K38
namespace K38
open PySem Ev
theorem PotB.live {b : Nat} {o : O} (h : PotB b o) : o.live = true := by obtain ⟨_, _, _, rfl, _⟩ := h; rfl
theorem PotB.le {b c : Nat} {o : O} (h : PotB b o) (hc : c ≤ b) : PotB c o := by obtain ⟨p0, p1, p2, e, a1, a2, a3, a4⟩ := h; exact ⟨p0, p1, p2, e, a1, a2, a3, by omega⟩
theorem take_call {b : Nat} {o : O} {φ : List O} {j : Nat} {u : Int} (hj : φ[j]? = some o) (h : PotB (b + 1) o) (h1 : 0 < u) (h2 : u < 2 ^ 30) : ∃ r o', callX F_law_take [.h j, .v (.int u)] φ = .ok (.v (.int r)) (φ.set j o') ∧ 0 ≤ r ∧ r < u ∧ PotB b o' := by
  obtain ⟨r, o', e, h3, h4, h5⟩ := take_ok h h1 h2
  exact ⟨r, o', callX_p1 hj h.live e, h3, h4, h5⟩
theorem of_ok {b : Nat} {o : O} {xs : List D} (h : PotB (b + 1) o) (h1 : xs ≠ []) (h2 : xs.length < 2 ^ 24) : ∃ d ∈ xs, ∃ o', F_law_of [.h 0, .v (.lst xs)] [o] = .ok (.v d) [o'] ∧ PotB b o' := by
  have hl : 0 < xs.length := List.length_pos_iff.mpr h1
  obtain ⟨r, o', e, h3, h4, h5⟩ := take_call (φ := [o]) (j := 0) (u := xs.length) rfl h (by omega) (by omega)
  have hr : r.toNat < xs.length := by omega
  refine ⟨xs[r.toNat], List.getElem_mem hr, o', ?_, h5⟩
  have hix : L2.atI xs r = some xs[r.toNat] := by rw [atI_of h3, List.getElem?_eq_getElem hr]
  unfold F_law_of evFn il_law_of
  simp -dsimp [exs, ev, evs, evP, evC, evT, opn, op2, op1, peek, peeks, truX, truth, biD, cmpD, binD, evI, bindT, bindTs, frzX, frzXs, O.toD, X1.sl, ix_tup, ix_lst, ix_rls, atI_0, atI_1, atI_2, atI_3, gtD, modD, fdivD, intD, addD, subD, mulD, Ev.finish, powD, isiD, D.tyn, isT, evF_lst, evF_cat, evF_rep, evF_sl, evF_bil, evF_bis, evF_bid, evF_rng, evF_dnew, evF_ssi, ex1_ex, ex1_nm, ex1_tp, ex1_par, ex1_ret, ex1_ret0, ex1_ite, ex1_sti, leD, ltD, geD, lenD, isD, isnD, isB, D.items, neD, eqD, eqB, e, hix]
theorem of_call {b : Nat} {o : O} {φ : List O} {j : Nat} {xs : List D} (hj : φ[j]? = some o) (h : PotB (b + 1) o) (h1 : xs ≠ []) (h2 : xs.length < 2 ^ 24) : ∃ d ∈ xs, ∃ o', callX F_law_of [.h j, .v (.lst xs)] φ = .ok (.v d) (φ.set j o') ∧ PotB b o' := by
  obtain ⟨d, hd, o', e, h5⟩ := of_ok h h1 h2
  exact ⟨d, hd, o', callX_p1 hj h.live e, h5⟩
theorem scale_turn {b : Nat} {o : O} {ds : List D} {day wide lap : Int} {s : Sl} (h : PotB (b + 4) o) (hw : 0 < wide) (hw2 : wide ≤ 120) (hd : ds.length < 100) : ∃ (e r : Int) (o' : O), turnF [F_law_of, F_law_take] (.nm 2) [
    .app 6 (.tup [(.bi .int [(.slot 7)]), (.bi .int [(.call 0 [(.slot 0), (.frz (.lst [(.con (.int 0)), (.call 1 [(.slot 0), (.con (.int 5))]), (.call 1 [(.slot 0), (.con (.int 30))])]))])])]),
    .asg (.nm 7) (.bin .Add (.bin .Add (.slot 7) (.con (.int 1))) (.call 1 [(.slot 0), (.slot 1)]))] (.int lap) [.h 0, .v (.int wide), s, .u, .u, .u, .h 1, .v (.int day), .u, .u, .u] [o, .lst ds] = .ok (.nx [.h 0, .v (.int wide), .v (.int lap), .u, .u, .u, .h 1, .v (.int (day + 1 + r)), .u, .u, .u]) [o', .lst (ds ++ [.tup [.int day, .int e]])] ∧ 0 ≤ e ∧ e < 30 ∧ 0 ≤ r ∧ r < wide ∧ PotB b o' := by
  obtain ⟨r1, o1, e1, a1, b1, h1⟩ := take_call (φ := [o, .lst ds]) (j := 0) (u := 5) rfl h (by decide) (by decide)
  obtain ⟨r2, o2, e2, a2, b2, h2⟩ := take_call (φ := [o1, .lst ds]) (j := 0) (u := 30) rfl h1 (by decide) (by decide)
  obtain ⟨d, hdm, o3, e3, h3⟩ := of_call (φ := [o2, .lst ds]) (j := 0) (xs := [.int 0, .int r1, .int r2]) rfl h2 (by simp -dsimp [exs, ev, evs, evP, evC, evT, opn, op2, op1, peek, peeks, truX, truth, biD, cmpD, binD, evI, bindT, bindTs, frzX, frzXs, O.toD, X1.sl, ix_tup, ix_lst, ix_rls, atI_0, atI_1, atI_2, atI_3, gtD, modD, fdivD, intD, addD, subD, mulD, Ev.finish, powD, isiD, D.tyn, isT, evF_lst, evF_cat, evF_rep, evF_sl, evF_bil, evF_bis, evF_bid, evF_rng, evF_dnew, evF_ssi, ex1_ex, ex1_nm, ex1_tp, ex1_par, ex1_ret, ex1_ret0, ex1_ite, ex1_sti, leD, ltD, geD, lenD, isD, isnD, isB, D.items, neD, eqD, eqB]) (by simp -dsimp [exs, ev, evs, evP, evC, evT, opn, op2, op1, peek, peeks, truX, truth, biD, cmpD, binD, evI, bindT, bindTs, frzX, frzXs, O.toD, X1.sl, ix_tup, ix_lst, ix_rls, atI_0, atI_1, atI_2, atI_3, gtD, modD, fdivD, intD, addD, subD, mulD, Ev.finish, powD, isiD, D.tyn, isT, evF_lst, evF_cat, evF_rep, evF_sl, evF_bil, evF_bis, evF_bid, evF_rng, evF_dnew, evF_ssi, ex1_ex, ex1_nm, ex1_tp, ex1_par, ex1_ret, ex1_ret0, ex1_ite, ex1_sti, leD, ltD, geD, lenD, isD, isnD, isB, D.items, neD, eqD, eqB])
  obtain ⟨e, rfl, p1, p2⟩ : ∃ e, d = .int e ∧ 0 ≤ e ∧ e < 30 := by
    simp -dsimp only [List.mem_cons, List.not_mem_nil, or_false] at hdm
    rcases hdm with rfl | rfl | rfl
    · exact ⟨0, rfl, by decide, by decide⟩
    · exact ⟨r1, rfl, a1, by omega⟩
    · exact ⟨r2, rfl, a2, b2⟩
  obtain ⟨r4, o4, e4, a4, b4, h4⟩ := take_call (φ := [o3, .lst (ds ++ [.tup [.int day, .int e]])]) (j := 0) (u := wide) rfl h3 hw (by omega)
  refine ⟨e, r4, o4, ?_, p1, p2, a4, b4, h4⟩
  have hs : ds.length < 16777216 := by omega
  unfold turnF
  simp -dsimp only [bindT]
  rw [if_pos (by simp -dsimp [exs, ev, evs, evP, evC, evT, opn, op2, op1, peek, peeks, truX, truth, biD, cmpD, binD, evI, bindT, bindTs, frzX, frzXs, O.toD, X1.sl, ix_tup, ix_lst, ix_rls, atI_0, atI_1, atI_2, atI_3, gtD, modD, fdivD, intD, addD, subD, mulD, Ev.finish, powD, isiD, D.tyn, isT, evF_lst, evF_cat, evF_rep, evF_sl, evF_bil, evF_bis, evF_bid, evF_rng, evF_dnew, evF_ssi, ex1_ex, ex1_nm, ex1_tp, ex1_par, ex1_ret, ex1_ret0, ex1_ite, ex1_sti, leD, ltD, geD, lenD, isD, isnD, isB, D.items, neD, eqD, eqB])]
  show exs _ _ [.h 0, .v (.int wide), .v (.int lap), .u, .u, .u, .h 1, .v (.int day), .u, .u, .u] _ = _
  rw [exs_nx (ρ1 := [.h 0, .v (.int wide), .v (.int lap), .u, .u, .u, .h 1, .v (.int day), .u, .u, .u]) (φ1 := [o3, .lst (ds ++ [.tup [.int day, .int e]])]) (by rw [ex1_app (i := 6) (j := 1) rfl rfl]; simp -dsimp [exs, ev, evs, evP, evC, evT, opn, op2, op1, peek, peeks, truX, truth, biD, cmpD, binD, evI, bindT, bindTs, frzX, frzXs, O.toD, X1.sl, ix_tup, ix_lst, ix_rls, atI_0, atI_1, atI_2, atI_3, gtD, modD, fdivD, intD, addD, subD, mulD, Ev.finish, powD, isiD, D.tyn, isT, evF_lst, evF_cat, evF_rep, evF_sl, evF_bil, evF_bis, evF_bid, evF_rng, evF_dnew, evF_ssi, ex1_ex, ex1_nm, ex1_tp, ex1_par, ex1_ret, ex1_ret0, ex1_ite, ex1_sti, leD, ltD, geD, lenD, isD, isnD, isB, D.items, neD, eqD, eqB, e1, e2, e3, sizeLine_eq, hs])]
  simp -dsimp [exs, ev, evs, evP, evC, evT, opn, op2, op1, peek, peeks, truX, truth, biD, cmpD, binD, evI, bindT, bindTs, frzX, frzXs, O.toD, X1.sl, ix_tup, ix_lst, ix_rls, atI_0, atI_1, atI_2, atI_3, gtD, modD, fdivD, intD, addD, subD, mulD, Ev.finish, powD, isiD, D.tyn, isT, evF_lst, evF_cat, evF_rep, evF_sl, evF_bil, evF_bis, evF_bid, evF_rng, evF_dnew, evF_ssi, ex1_ex, ex1_nm, ex1_tp, ex1_par, ex1_ret, ex1_ret0, ex1_ite, ex1_sti, leD, ltD, geD, lenD, isD, isnD, isB, D.items, neD, eqD, eqB, e4]
theorem scale_tail {b : Nat} {o : O} {q : List O} {k : Nat} {ds : List D} {wide s2 s3 s7 : Sl} (h : PotB (b + 5) o) (hq : q[k]? = some (.lst ds)) : ∃ (free : Int) (most : D) (o' : O), exs [F_law_of, F_law_take] [
  .asg (.nm 4) (.call 0 [(.slot 0), (.frz (.lst [(.con (.int 0)), (.con (.int 0)), (.con (.int 0)), (.con (.int 1)), (.call 1 [(.slot 0), (.con (.int 5))])]))]),
  .asg (.nm 5) (.call 0 [(.slot 0), (.frz (.lst [(.con .non), (.con .non), (.bi .int [(.call 1 [(.slot 0), (.con (.int 99))])]), (.bi .int [(.call 1 [(.slot 0), (.con (.int 9))])])]))]),
  .ret (.tup [(.bi .int [(.slot 4)]), (.bi .tuple [(.slot 6)]), (.slot 5)])] [.h 0, wide, s2, s3, .u, .u, .h (k + 1), s7, .u, .u, .u] (o :: q) = .ok (.rt (.v (.tup [.int free, .tup ds, most]))) (o' :: q) ∧ 0 ≤ free ∧ free ≤ 4 ∧ (most = .non ∨ ∃ m, most = .int m ∧ 0 ≤ m ∧ m < 99) ∧ PotB b o' := by
  obtain ⟨r1, o1, e1, a1, b1, h1⟩ := take_call (φ := o :: q) (j := 0) (u := 5) rfl h (by decide) (by decide)
  obtain ⟨d, hdm, o2, e2, h2⟩ := of_call (φ := o1 :: q) (j := 0) (xs := [.int 0, .int 0, .int 0, .int 1, .int r1]) rfl h1 (by simp -dsimp [exs, ev, evs, evP, evC, evT, opn, op2, op1, peek, peeks, truX, truth, biD, cmpD, binD, evI, bindT, bindTs, frzX, frzXs, O.toD, X1.sl, ix_tup, ix_lst, ix_rls, atI_0, atI_1, atI_2, atI_3, gtD, modD, fdivD, intD, addD, subD, mulD, Ev.finish, powD, isiD, D.tyn, isT, evF_lst, evF_cat, evF_rep, evF_sl, evF_bil, evF_bis, evF_bid, evF_rng, evF_dnew, evF_ssi, ex1_ex, ex1_nm, ex1_tp, ex1_par, ex1_ret, ex1_ret0, ex1_ite, ex1_sti, leD, ltD, geD, lenD, isD, isnD, isB, D.items, neD, eqD, eqB]) (by simp -dsimp [exs, ev, evs, evP, evC, evT, opn, op2, op1, peek, peeks, truX, truth, biD, cmpD, binD, evI, bindT, bindTs, frzX, frzXs, O.toD, X1.sl, ix_tup, ix_lst, ix_rls, atI_0, atI_1, atI_2, atI_3, gtD, modD, fdivD, intD, addD, subD, mulD, Ev.finish, powD, isiD, D.tyn, isT, evF_lst, evF_cat, evF_rep, evF_sl, evF_bil, evF_bis, evF_bid, evF_rng, evF_dnew, evF_ssi, ex1_ex, ex1_nm, ex1_tp, ex1_par, ex1_ret, ex1_ret0, ex1_ite, ex1_sti, leD, ltD, geD, lenD, isD, isnD, isB, D.items, neD, eqD, eqB])
  obtain ⟨free, rfl, p1, p2⟩ : ∃ e, d = .int e ∧ 0 ≤ e ∧ e ≤ 4 := by
    simp -dsimp only [List.mem_cons, List.not_mem_nil, or_false] at hdm
    rcases hdm with rfl | rfl | rfl | rfl | rfl
    · exact ⟨0, rfl, by decide, by decide⟩
    · exact ⟨0, rfl, by decide, by decide⟩
    · exact ⟨0, rfl, by decide, by decide⟩
    · exact ⟨1, rfl, by decide, by decide⟩
    · exact ⟨r1, rfl, a1, by omega⟩
  obtain ⟨r3, o3, e3, a3, b3, h3⟩ := take_call (φ := o2 :: q) (j := 0) (u := 99) rfl h2 (by decide) (by decide)
  obtain ⟨r4, o4, e4, a4, b4, h4⟩ := take_call (φ := o3 :: q) (j := 0) (u := 9) rfl h3 (by decide) (by decide)
  obtain ⟨most, hm, o5, e5, h5⟩ := of_call (φ := o4 :: q) (j := 0) (xs := [.non, .non, .int r3, .int r4]) rfl h4 (by simp -dsimp [exs, ev, evs, evP, evC, evT, opn, op2, op1, peek, peeks, truX, truth, biD, cmpD, binD, evI, bindT, bindTs, frzX, frzXs, O.toD, X1.sl, ix_tup, ix_lst, ix_rls, atI_0, atI_1, atI_2, atI_3, gtD, modD, fdivD, intD, addD, subD, mulD, Ev.finish, powD, isiD, D.tyn, isT, evF_lst, evF_cat, evF_rep, evF_sl, evF_bil, evF_bis, evF_bid, evF_rng, evF_dnew, evF_ssi, ex1_ex, ex1_nm, ex1_tp, ex1_par, ex1_ret, ex1_ret0, ex1_ite, ex1_sti, leD, ltD, geD, lenD, isD, isnD, isB, D.items, neD, eqD, eqB]) (by simp -dsimp [exs, ev, evs, evP, evC, evT, opn, op2, op1, peek, peeks, truX, truth, biD, cmpD, binD, evI, bindT, bindTs, frzX, frzXs, O.toD, X1.sl, ix_tup, ix_lst, ix_rls, atI_0, atI_1, atI_2, atI_3, gtD, modD, fdivD, intD, addD, subD, mulD, Ev.finish, powD, isiD, D.tyn, isT, evF_lst, evF_cat, evF_rep, evF_sl, evF_bil, evF_bis, evF_bid, evF_rng, evF_dnew, evF_ssi, ex1_ex, ex1_nm, ex1_tp, ex1_par, ex1_ret, ex1_ret0, ex1_ite, ex1_sti, leD, ltD, geD, lenD, isD, isnD, isB, D.items, neD, eqD, eqB])
  refine ⟨free, most, o5, ?_, p1, p2, ?_, h5⟩
  · have hq1 : (o5 :: q)[k + 1]? = some (.lst ds) := hq
    simp -dsimp [exs, ev, evs, evP, evC, evT, opn, op2, op1, peek, peeks, truX, truth, biD, cmpD, binD, evI, bindT, bindTs, frzX, frzXs, O.toD, X1.sl, ix_tup, ix_lst, ix_rls, atI_0, atI_1, atI_2, atI_3, gtD, modD, fdivD, intD, addD, subD, mulD, Ev.finish, powD, isiD, D.tyn, isT, evF_lst, evF_cat, evF_rep, evF_sl, evF_bil, evF_bis, evF_bid, evF_rng, evF_dnew, evF_ssi, ex1_ex, ex1_nm, ex1_tp, ex1_par, ex1_ret, ex1_ret0, ex1_ite, ex1_sti, leD, ltD, geD, lenD, isD, isnD, isB, D.items, neD, eqD, eqB, e1, e2, e3, e4, e5, sizeLine_eq, tupleD, hq1, hq]
  · simp -dsimp only [List.mem_cons, List.not_mem_nil, or_false] at hm
    rcases hm with rfl | rfl | rfl | rfl
    · exact .inl rfl
    · exact .inl rfl
    · exact .inr ⟨_, rfl, a3, b3⟩
    · exact .inr ⟨_, rfl, a4, by omega⟩
def stD (p : Int × Int) : D := .tup [.int p.1, .int p.2]
structure VSt (sts : List (Int × Int)) : Prop where
  ne : sts ≠ []
  len : sts.length ≤ 4
  bd : ∀ p ∈ sts, 1 ≤ p.1 ∧ p.1 ≤ 400 ∧ 0 ≤ p.2 ∧ p.2 ≤ 30
  hd : (sts.map (·.1)).head? = some 1
  adj : (sts.map (·.1)).Pairwise (· < ·)
structure LoopI (wide : Int) (b : Nat) (i : Nat) (ρ : List Sl) (φ : List O) : Prop where
  i4 : i ≤ 4
  ex : ∃ (s : Sl) (day : Int) (sts : List (Int × Int)) (o : O), ρ = [.h 0, .v (.int wide), s, .u, .u, .u, .h 1, .v (.int day), .u, .u, .u] ∧ φ = [o, .lst (sts.map stD)] ∧ PotB (b + 4 * (4 - i)) o ∧ sts.length = i ∧ 1 ≤ day ∧ day ≤ 1 + 120 * i ∧ (∀ p ∈ sts, 1 ≤ p.1 ∧ p.1 < day ∧ p.1 ≤ 361 ∧ 0 ≤ p.2 ∧ p.2 ≤ 30) ∧ (sts = [] → day = 1) ∧ (sts ≠ [] → (sts.map (·.1)).head? = some 1) ∧ (sts.map (·.1)).Pairwise (· < ·)
theorem scale_loop {b : Nat} {o : O} {wide r : Int} {s : Sl} (h : PotB (b + 16) o) (hw : 0 < wide) (hw2 : wide ≤ 120) (r0 : 0 ≤ r) (r1 : r < 4) : ∃ (s' : Sl) (day : Int) (sts : List (Int × Int)) (o' : O), forL (turnF [F_law_of, F_law_take] (.nm 2) [
    .app 6 (.tup [(.bi .int [(.slot 7)]), (.bi .int [(.call 0 [(.slot 0), (.frz (.lst [(.con (.int 0)), (.call 1 [(.slot 0), (.con (.int 5))]), (.call 1 [(.slot 0), (.con (.int 30))])]))])])]),
    .asg (.nm 7) (.bin .Add (.bin .Add (.slot 7) (.con (.int 1))) (.call 1 [(.slot 0), (.slot 1)]))]) (rngL 0 (1 + r)) [.h 0, .v (.int wide), s, .u, .u, .u, .h 1, .v (.int 1), .u, .u, .u] [o, .lst []] = .ok (.nx [.h 0, .v (.int wide), s', .u, .u, .u, .h 1, .v (.int day), .u, .u, .u]) [o', .lst (sts.map stD)] ∧ PotB b o' ∧ VSt sts := by
  have hl : (rngL 0 (1 + r)).length ≤ 4 := by rw [rngL_len]; omega
  have hl1 : 1 ≤ (rngL 0 (1 + r)).length := by rw [rngL_len]; omega
  obtain ⟨ρ', φ', e, hI⟩ := forL_inv (LoopI wide b) (rngL 0 (1 + r)) 0 _ [o, .lst []] ⟨by decide, s, 1, [], o, rfl, rfl, h, rfl, by decide, by decide, by simp -dsimp [exs, ev, evs, evP, evC, evT, opn, op2, op1, peek, peeks, truX, truth, biD, cmpD, binD, evI, bindT, bindTs, frzX, frzXs, O.toD, X1.sl, ix_tup, ix_lst, ix_rls, atI_0, atI_1, atI_2, atI_3, gtD, modD, fdivD, intD, addD, subD, mulD, Ev.finish, powD, isiD, D.tyn, isT, evF_lst, evF_cat, evF_rep, evF_sl, evF_bil, evF_bis, evF_bid, evF_rng, evF_dnew, evF_ssi, ex1_ex, ex1_nm, ex1_tp, ex1_par, ex1_ret, ex1_ret0, ex1_ite, ex1_sti, leD, ltD, geD, lenD, isD, isnD, isB, D.items, neD, eqD, eqB], by simp -dsimp [exs, ev, evs, evP, evC, evT, opn, op2, op1, peek, peeks, truX, truth, biD, cmpD, binD, evI, bindT, bindTs, frzX, frzXs, O.toD, X1.sl, ix_tup, ix_lst, ix_rls, atI_0, atI_1, atI_2, atI_3, gtD, modD, fdivD, intD, addD, subD, mulD, Ev.finish, powD, isiD, D.tyn, isT, evF_lst, evF_cat, evF_rep, evF_sl, evF_bil, evF_bis, evF_bid, evF_rng, evF_dnew, evF_ssi, ex1_ex, ex1_nm, ex1_tp, ex1_par, ex1_ret, ex1_ret0, ex1_ite, ex1_sti, leD, ltD, geD, lenD, isD, isnD, isB, D.items, neD, eqD, eqB], by simp -dsimp [exs, ev, evs, evP, evC, evT, opn, op2, op1, peek, peeks, truX, truth, biD, cmpD, binD, evI, bindT, bindTs, frzX, frzXs, O.toD, X1.sl, ix_tup, ix_lst, ix_rls, atI_0, atI_1, atI_2, atI_3, gtD, modD, fdivD, intD, addD, subD, mulD, Ev.finish, powD, isiD, D.tyn, isT, evF_lst, evF_cat, evF_rep, evF_sl, evF_bil, evF_bis, evF_bid, evF_rng, evF_dnew, evF_ssi, ex1_ex, ex1_nm, ex1_tp, ex1_par, ex1_ret, ex1_ret0, ex1_ite, ex1_sti, leD, ltD, geD, lenD, isD, isnD, isB, D.items, neD, eqD, eqB], by simp -dsimp [exs, ev, evs, evP, evC, evT, opn, op2, op1, peek, peeks, truX, truth, biD, cmpD, binD, evI, bindT, bindTs, frzX, frzXs, O.toD, X1.sl, ix_tup, ix_lst, ix_rls, atI_0, atI_1, atI_2, atI_3, gtD, modD, fdivD, intD, addD, subD, mulD, Ev.finish, powD, isiD, D.tyn, isT, evF_lst, evF_cat, evF_rep, evF_sl, evF_bil, evF_bis, evF_bid, evF_rng, evF_dnew, evF_ssi, ex1_ex, ex1_nm, ex1_tp, ex1_par, ex1_ret, ex1_ret0, ex1_ite, ex1_sti, leD, ltD, geD, lenD, isD, isnD, isB, D.items, neD, eqD, eqB]⟩ (fun j d ρ φ hj ⟨h4, s, day, sts, o, e1, e2, hP, hl, d1, d2, hb, hn, hh, ha⟩ => by
    obtain ⟨rfl, hj2⟩ := rngL_at hj
    have hj3 : j < 4 := by omega
    rw [Nat.zero_add] at *
    subst e1 e2
    obtain ⟨e, r, o', e3, q1, q2, q3, q4, hP'⟩ := scale_turn (b := b + 4 * (4 - (j + 1))) (o := o) (ds := sts.map stD) (day := day) (wide := wide) (lap := 0 + j) (s := s) (hP.le (by omega)) hw hw2 (by rw [List.length_map]; omega)
    refine ⟨_, _, e3, by omega, _, day + 1 + r, sts ++ [(day, e)], o', rfl, by rw [List.map_append]; rfl, hP', by simp -dsimp [exs, ev, evs, evP, evC, evT, opn, op2, op1, peek, peeks, truX, truth, biD, cmpD, binD, evI, bindT, bindTs, frzX, frzXs, O.toD, X1.sl, ix_tup, ix_lst, ix_rls, atI_0, atI_1, atI_2, atI_3, gtD, modD, fdivD, intD, addD, subD, mulD, Ev.finish, powD, isiD, D.tyn, isT, evF_lst, evF_cat, evF_rep, evF_sl, evF_bil, evF_bis, evF_bid, evF_rng, evF_dnew, evF_ssi, ex1_ex, ex1_nm, ex1_tp, ex1_par, ex1_ret, ex1_ret0, ex1_ite, ex1_sti, leD, ltD, geD, lenD, isD, isnD, isB, D.items, neD, eqD, eqB, hl], by omega, by omega, ?_, by simp -dsimp [exs, ev, evs, evP, evC, evT, opn, op2, op1, peek, peeks, truX, truth, biD, cmpD, binD, evI, bindT, bindTs, frzX, frzXs, O.toD, X1.sl, ix_tup, ix_lst, ix_rls, atI_0, atI_1, atI_2, atI_3, gtD, modD, fdivD, intD, addD, subD, mulD, Ev.finish, powD, isiD, D.tyn, isT, evF_lst, evF_cat, evF_rep, evF_sl, evF_bil, evF_bis, evF_bid, evF_rng, evF_dnew, evF_ssi, ex1_ex, ex1_nm, ex1_tp, ex1_par, ex1_ret, ex1_ret0, ex1_ite, ex1_sti, leD, ltD, geD, lenD, isD, isnD, isB, D.items, neD, eqD, eqB], ?_, ?_⟩
    · intro p hp
      rcases List.mem_append.mp hp with hp | hp
      · have := hb p hp; omega
      · rw [List.mem_singleton] at hp; subst hp; simp -dsimp only; omega
    · intro _
      by_cases hs : sts = []
      · subst hs; rw [hn rfl]; rfl
      · have := hh hs
        rw [List.map_append, List.head?_append, this]; rfl
    · rw [List.map_append, List.pairwise_append]
      refine ⟨ha, List.pairwise_singleton .., fun x hx y hy => ?_⟩
      obtain ⟨p, hp, rfl⟩ := List.mem_map.mp hx
      simp -dsimp only [List.map_cons, List.map_nil, List.mem_singleton] at hy
      subst hy
      exact (hb p hp).2.1)
  obtain ⟨h4, s', day, sts, o', e1, e2, hP, hl2, d1, d2, hb, hn, hh, ha⟩ := hI
  subst e1 e2
  rw [Nat.zero_add] at *
  have hne : sts ≠ [] := by intro hs; subst hs; simp -dsimp [exs, ev, evs, evP, evC, evT, opn, op2, op1, peek, peeks, truX, truth, biD, cmpD, binD, evI, bindT, bindTs, frzX, frzXs, O.toD, X1.sl, ix_tup, ix_lst, ix_rls, atI_0, atI_1, atI_2, atI_3, gtD, modD, fdivD, intD, addD, subD, mulD, Ev.finish, powD, isiD, D.tyn, isT, evF_lst, evF_cat, evF_rep, evF_sl, evF_bil, evF_bis, evF_bid, evF_rng, evF_dnew, evF_ssi, ex1_ex, ex1_nm, ex1_tp, ex1_par, ex1_ret, ex1_ret0, ex1_ite, ex1_sti, leD, ltD, geD, lenD, isD, isnD, isB, D.items, neD, eqD, eqB] at hl2; omega
  refine ⟨s', day, sts, o', e, hP.le (by omega), hne, by omega, fun p hp => ?_, hh hne, ha⟩
  have := hb p hp
  omega
def VS (d : D) : Prop := ∃ (free : Int) (sts : List (Int × Int)) (most : D), d = .tup [.int free, .tup (sts.map stD), most] ∧ 0 ≤ free ∧ free ≤ 4 ∧ VSt sts ∧ (most = .non ∨ ∃ m, most = .int m ∧ 0 ≤ m ∧ m < 99)
def reSt (k : Nat) : List (Int × Int) → List (Int × Int)
  | [] => []
  | p :: r => (p.1, 30 - (k : Int)) :: reSt (k + 1) r
theorem reSt_fst : ∀ (k : Nat) (sts : List (Int × Int)), (reSt k sts).map (·.1) = sts.map (·.1)
  | _, [] => rfl
  | k, p :: r => by simp -dsimp only [reSt, List.map_cons, reSt_fst (k + 1) r]
theorem reSt_len : ∀ (k : Nat) (sts : List (Int × Int)), (reSt k sts).length = sts.length
  | _, [] => rfl
  | k, p :: r => by simp -dsimp only [reSt, List.length_cons, reSt_len (k + 1) r]
theorem reSt_snd : ∀ (k : Nat) (sts : List (Int × Int)), k + sts.length ≤ 30 → ∀ p ∈ reSt k sts, 0 ≤ p.2 ∧ p.2 ≤ 30
  | _, [], _, p, h => by simp -dsimp [exs, ev, evs, evP, evC, evT, opn, op2, op1, peek, peeks, truX, truth, biD, cmpD, binD, evI, bindT, bindTs, frzX, frzXs, O.toD, X1.sl, ix_tup, ix_lst, ix_rls, atI_0, atI_1, atI_2, atI_3, gtD, modD, fdivD, intD, addD, subD, mulD, Ev.finish, powD, isiD, D.tyn, isT, evF_lst, evF_cat, evF_rep, evF_sl, evF_bil, evF_bis, evF_bid, evF_rng, evF_dnew, evF_ssi, ex1_ex, ex1_nm, ex1_tp, ex1_par, ex1_ret, ex1_ret0, ex1_ite, ex1_sti, leD, ltD, geD, lenD, isD, isnD, isB, D.items, neD, eqD, eqB, reSt] at h
  | k, q :: r, hk, p, h => by
    simp -dsimp only [List.length_cons] at hk
    simp -dsimp only [reSt, List.mem_cons] at h
    rcases h with rfl | h
    · simp -dsimp only; omega
    · exact reSt_snd (k + 1) r (by omega) p h
def reW : D → Option D
  | .wtp [.int i, .tup [a, _]] => some (.tup [a, .int (30 - i)])
  | _ => none
theorem reW_map : ∀ (sts : List (Int × Int)) (k : Nat), (enumL (sts.map stD) k).filterMap reW = (reSt k sts).map stD
  | [], _ => rfl
  | p :: r, k => by
    simp -dsimp only [List.map_cons, enumL, List.filterMap_cons, reSt]
    rw [reW_map r (k + 1)]
    rfl
theorem VSt.re {sts : List (Int × Int)} (h : VSt sts) : VSt (reSt 0 sts) := by
  have hf := reSt_fst 0 sts
  refine ⟨fun e => h.ne ?_, by rw [reSt_len]; exact h.len, fun p hp => ?_, by rw [hf]; exact h.hd, by rw [hf]; exact h.adj⟩
  · have := reSt_len 0 sts
    rw [e] at this
    exact List.length_eq_zero_iff.mp this.symm
  · have hm : p.1 ∈ (reSt 0 sts).map (·.1) := List.mem_map.mpr ⟨p, hp, rfl⟩
    rw [hf] at hm
    obtain ⟨q, hq, e⟩ := List.mem_map.mp hm
    have h1 := h.bd q hq
    have h2 := reSt_snd 0 sts (by have := h.len; omega) p hp
    omega
theorem VSt.one {sts : List (Int × Int)} (h : VSt sts) : VSt (sts.take 1) := by
  obtain ⟨ne, len, bd, hd, adj⟩ := h
  cases sts with
  | nil => exact absurd rfl ne
  | cons p r => exact ⟨by simp -dsimp [exs, ev, evs, evP, evC, evT, opn, op2, op1, peek, peeks, truX, truth, biD, cmpD, binD, evI, bindT, bindTs, frzX, frzXs, O.toD, X1.sl, ix_tup, ix_lst, ix_rls, atI_0, atI_1, atI_2, atI_3, gtD, modD, fdivD, intD, addD, subD, mulD, Ev.finish, powD, isiD, D.tyn, isT, evF_lst, evF_cat, evF_rep, evF_sl, evF_bil, evF_bis, evF_bid, evF_rng, evF_dnew, evF_ssi, ex1_ex, ex1_nm, ex1_tp, ex1_par, ex1_ret, ex1_ret0, ex1_ite, ex1_sti, leD, ltD, geD, lenD, isD, isnD, isB, D.items, neD, eqD, eqB], by simp -dsimp [exs, ev, evs, evP, evC, evT, opn, op2, op1, peek, peeks, truX, truth, biD, cmpD, binD, evI, bindT, bindTs, frzX, frzXs, O.toD, X1.sl, ix_tup, ix_lst, ix_rls, atI_0, atI_1, atI_2, atI_3, gtD, modD, fdivD, intD, addD, subD, mulD, Ev.finish, powD, isiD, D.tyn, isT, evF_lst, evF_cat, evF_rep, evF_sl, evF_bil, evF_bis, evF_bid, evF_rng, evF_dnew, evF_ssi, ex1_ex, ex1_nm, ex1_tp, ex1_par, ex1_ret, ex1_ret0, ex1_ite, ex1_sti, leD, ltD, geD, lenD, isD, isnD, isB, D.items, neD, eqD, eqB], fun q hq => bd q (List.mem_of_mem_take hq), hd, by simp -dsimp [exs, ev, evs, evP, evC, evT, opn, op2, op1, peek, peeks, truX, truth, biD, cmpD, binD, evI, bindT, bindTs, frzX, frzXs, O.toD, X1.sl, ix_tup, ix_lst, ix_rls, atI_0, atI_1, atI_2, atI_3, gtD, modD, fdivD, intD, addD, subD, mulD, Ev.finish, powD, isiD, D.tyn, isT, evF_lst, evF_cat, evF_rep, evF_sl, evF_bil, evF_bis, evF_bid, evF_rng, evF_dnew, evF_ssi, ex1_ex, ex1_nm, ex1_tp, ex1_par, ex1_ret, ex1_ret0, ex1_ite, ex1_sti, leD, ltD, geD, lenD, isD, isnD, isB, D.items, neD, eqD, eqB]⟩
theorem scale_ok {b : Nat} {o : O} {wide : Int} (h : PotB (b + 23) o) (hw : 0 < wide) (hw2 : wide ≤ 120) : ∃ d o', F_law_scale [.h 0, .v (.int wide)] [o] = .ok (.v d) [o'] ∧ VS d ∧ PotB b o' := by
  obtain ⟨r1, o1, e1, a1, b1, h1⟩ := take_call (φ := [o, .lst []]) (j := 0) (u := 4) rfl h (by decide) (by decide)
  obtain ⟨s', day, sts, o2, e2, h2, hv⟩ := scale_loop (s := .u) (b := b + 6) (h1.le (by omega)) hw hw2 a1 b1
  obtain ⟨way, o3, e3, a3, b3, h3⟩ := take_call (φ := [o2, .lst (sts.map stD)]) (j := 0) (u := 5) rfl h2 (by decide) (by decide)
  have hl : (sts.map stD).length ≤ sizeLine := by rw [List.length_map, sizeLine_eq]; have := hv.len; omega
  unfold F_law_scale evFn il_law_scale
  simp -dsimp only [List.length_cons, List.length_nil, Nat.reduceAdd, Nat.reduceLeDiff, and_self, if_true]
  rw [exs_nx (ρ1 := [.h 0, .v (.int wide), .u, .u, .u, .u, .h 1, .v (.int 1), .u, .u, .u]) (φ1 := [o, .lst []]) (by simp -dsimp [exs, ev, evs, evP, evC, evT, opn, op2, op1, peek, peeks, truX, truth, biD, cmpD, binD, evI, bindT, bindTs, frzX, frzXs, O.toD, X1.sl, ix_tup, ix_lst, ix_rls, atI_0, atI_1, atI_2, atI_3, gtD, modD, fdivD, intD, addD, subD, mulD, Ev.finish, powD, isiD, D.tyn, isT, evF_lst, evF_cat, evF_rep, evF_sl, evF_bil, evF_bis, evF_bid, evF_rng, evF_dnew, evF_ssi, ex1_ex, ex1_nm, ex1_tp, ex1_par, ex1_ret, ex1_ret0, ex1_ite, ex1_sti, leD, ltD, geD, lenD, isD, isnD, isB, D.items, neD, eqD, eqB, sizeLine_eq])]
  have hI : evI [F_law_of, F_law_take] (.rng1 (.bin .Add (.con (.int 1)) (.call 1 [(.slot 0), (.con (.int 4))]))) [.h 0, .v (.int wide), .u, .u, .u, .u, .h 1, .v (.int 1), .u, .u, .u] [o, .lst []] = .ok ⟨rngL 0 (1 + r1), true, []⟩ [o1, .lst []] := by
    have : inRng (1 + r1) = true := by unfold inRng; simp -dsimp [exs, ev, evs, evP, evC, evT, opn, op2, op1, peek, peeks, truX, truth, biD, cmpD, binD, evI, bindT, bindTs, frzX, frzXs, O.toD, X1.sl, ix_tup, ix_lst, ix_rls, atI_0, atI_1, atI_2, atI_3, gtD, modD, fdivD, intD, addD, subD, mulD, Ev.finish, powD, isiD, D.tyn, isT, evF_lst, evF_cat, evF_rep, evF_sl, evF_bil, evF_bis, evF_bid, evF_rng, evF_dnew, evF_ssi, ex1_ex, ex1_nm, ex1_tp, ex1_par, ex1_ret, ex1_ret0, ex1_ite, ex1_sti, leD, ltD, geD, lenD, isD, isnD, isB, D.items, neD, eqD, eqB]; omega
    simp -dsimp [exs, ev, evs, evP, evC, evT, opn, op2, op1, peek, peeks, truX, truth, biD, cmpD, binD, evI, bindT, bindTs, frzX, frzXs, O.toD, X1.sl, ix_tup, ix_lst, ix_rls, atI_0, atI_1, atI_2, atI_3, gtD, modD, fdivD, intD, addD, subD, mulD, Ev.finish, powD, isiD, D.tyn, isT, evF_lst, evF_cat, evF_rep, evF_sl, evF_bil, evF_bis, evF_bid, evF_rng, evF_dnew, evF_ssi, ex1_ex, ex1_nm, ex1_tp, ex1_par, ex1_ret, ex1_ret0, ex1_ite, ex1_sti, leD, ltD, geD, lenD, isD, isnD, isB, D.items, neD, eqD, eqB, e1, this]
  rw [exs_nx (ex1_for hI e2)]
  have hu : unlock ⟨rngL 0 (1 + r1), true, []⟩ [o2, .lst (sts.map stD)] = [o2, .lst (sts.map stD)] := rfl
  rw [hu]
  rw [exs_nx (ρ1 := [.h 0, .v (.int wide), s', .v (.int way), .u, .u, .h 1, .v (.int day), .u, .u, .u]) (φ1 := [o3, .lst (sts.map stD)]) (by simp -dsimp [exs, ev, evs, evP, evC, evT, opn, op2, op1, peek, peeks, truX, truth, biD, cmpD, binD, evI, bindT, bindTs, frzX, frzXs, O.toD, X1.sl, ix_tup, ix_lst, ix_rls, atI_0, atI_1, atI_2, atI_3, gtD, modD, fdivD, intD, addD, subD, mulD, Ev.finish, powD, isiD, D.tyn, isT, evF_lst, evF_cat, evF_rep, evF_sl, evF_bil, evF_bis, evF_bid, evF_rng, evF_dnew, evF_ssi, ex1_ex, ex1_nm, ex1_tp, ex1_par, ex1_ret, ex1_ret0, ex1_ite, ex1_sti, leD, ltD, geD, lenD, isD, isnD, isB, D.items, neD, eqD, eqB, e3])]
  by_cases w0 : way = 0
  · have hc : evF [F_law_of, F_law_take] (.comp [8, 9, 10] (.tp [(.nm 8), (.tp [(.nm 9), (.nm 10)])]) (.enum (.slot 6)) none (.tup [(.slot 9), (.bi .int [(.bin .Sub (.con (.int 30)) (.slot 8))])])) [.h 0, .v (.int wide), s', .v (.int way), .u, .u, .h 1, .v (.int day), .u, .u, .u] [o3, .lst (sts.map stD)] = .ok (.lst ((reSt 0 sts).map stD)) [o3, .lst (sts.map stD)] := by
      rw [evF_comp2 (wk := ⟨enumL (sts.map stD), true, [(1, sts.map stD)]⟩) (φ1 := [o3, .lck (sts.map stD)]) (g := reW) (by simp -dsimp [exs, ev, evs, evP, evC, evT, opn, op2, op1, peek, peeks, truX, truth, biD, cmpD, binD, evI, bindT, bindTs, frzX, frzXs, O.toD, X1.sl, ix_tup, ix_lst, ix_rls, atI_0, atI_1, atI_2, atI_3, gtD, modD, fdivD, intD, addD, subD, mulD, Ev.finish, powD, isiD, D.tyn, isT, evF_lst, evF_cat, evF_rep, evF_sl, evF_bil, evF_bis, evF_bid, evF_rng, evF_dnew, evF_ssi, ex1_ex, ex1_nm, ex1_tp, ex1_par, ex1_ret, ex1_ret0, ex1_ite, ex1_sti, leD, ltD, geD, lenD, isD, isnD, isB, D.items, neD, eqD, eqB, walkX]) (by simp -dsimp only [enumL_len]; exact hl) (by
        intro d hd
        obtain ⟨i, x, rfl, i0, i1, hx⟩ := enumL_mem hd
        obtain ⟨p, hp, rfl⟩ := List.mem_map.mp hx
        simp -dsimp [exs, ev, evs, evP, evC, evT, opn, op2, op1, peek, peeks, truX, truth, biD, cmpD, binD, evI, bindT, bindTs, frzX, frzXs, O.toD, X1.sl, ix_tup, ix_lst, ix_rls, atI_0, atI_1, atI_2, atI_3, gtD, modD, fdivD, intD, addD, subD, mulD, Ev.finish, powD, isiD, D.tyn, isT, evF_lst, evF_cat, evF_rep, evF_sl, evF_bil, evF_bis, evF_bid, evF_rng, evF_dnew, evF_ssi, ex1_ex, ex1_nm, ex1_tp, ex1_par, ex1_ret, ex1_ret0, ex1_ite, ex1_sti, leD, ltD, geD, lenD, isD, isnD, isB, D.items, neD, eqD, eqB, one1, wipeR, stD, reW, sizeLine_eq])]
      rw [reW_map]; rfl
    obtain ⟨free, most, o5, e5, f1, f2, f3, h5⟩ := scale_tail (b := b) (q := [.lst (sts.map stD), .lst ((reSt 0 sts).map stD)]) (k := 1) (wide := .v (.int wide)) (s2 := s') (s3 := .v (.int way)) (s7 := .v (.int day)) h3 rfl
    refine ⟨_, o5, ?_, ⟨free, reSt 0 sts, most, rfl, f1, f2, hv.re, f3⟩, h5⟩
    rw [exs_nx (ρ1 := [.h 0, .v (.int wide), s', .v (.int way), .u, .u, .h 2, .v (.int day), .u, .u, .u]) (φ1 := [o3, .lst (sts.map stD), .lst ((reSt 0 sts).map stD)]) (by simp -dsimp [exs, ev, evs, evP, evC, evT, opn, op2, op1, peek, peeks, truX, truth, biD, cmpD, binD, evI, bindT, bindTs, frzX, frzXs, O.toD, X1.sl, ix_tup, ix_lst, ix_rls, atI_0, atI_1, atI_2, atI_3, gtD, modD, fdivD, intD, addD, subD, mulD, Ev.finish, powD, isiD, D.tyn, isT, evF_lst, evF_cat, evF_rep, evF_sl, evF_bil, evF_bis, evF_bid, evF_rng, evF_dnew, evF_ssi, ex1_ex, ex1_nm, ex1_tp, ex1_par, ex1_ret, ex1_ret0, ex1_ite, ex1_sti, leD, ltD, geD, lenD, isD, isnD, isB, D.items, neD, eqD, eqB, w0, hc]; simp -dsimp [exs, ev, evs, evP, evC, evT, opn, op2, op1, peek, peeks, truX, truth, biD, cmpD, binD, evI, bindT, bindTs, frzX, frzXs, O.toD, X1.sl, ix_tup, ix_lst, ix_rls, atI_0, atI_1, atI_2, atI_3, gtD, modD, fdivD, intD, addD, subD, mulD, Ev.finish, powD, isiD, D.tyn, isT, evF_lst, evF_cat, evF_rep, evF_sl, evF_bil, evF_bis, evF_bid, evF_rng, evF_dnew, evF_ssi, ex1_ex, ex1_nm, ex1_tp, ex1_par, ex1_ret, ex1_ret0, ex1_ite, ex1_sti, leD, ltD, geD, lenD, isD, isnD, isB, D.items, neD, eqD, eqB, ← w0, hc])]
    rw [exs_nx (ρ1 := [.h 0, .v (.int wide), s', .v (.int way), .u, .u, .h 2, .v (.int day), .u, .u, .u]) (φ1 := [o3, .lst (sts.map stD), .lst ((reSt 0 sts).map stD)]) (by simp -dsimp [exs, ev, evs, evP, evC, evT, opn, op2, op1, peek, peeks, truX, truth, biD, cmpD, binD, evI, bindT, bindTs, frzX, frzXs, O.toD, X1.sl, ix_tup, ix_lst, ix_rls, atI_0, atI_1, atI_2, atI_3, gtD, modD, fdivD, intD, addD, subD, mulD, Ev.finish, powD, isiD, D.tyn, isT, evF_lst, evF_cat, evF_rep, evF_sl, evF_bil, evF_bis, evF_bid, evF_rng, evF_dnew, evF_ssi, ex1_ex, ex1_nm, ex1_tp, ex1_par, ex1_ret, ex1_ret0, ex1_ite, ex1_sti, leD, ltD, geD, lenD, isD, isnD, isB, D.items, neD, eqD, eqB, w0])]
    rw [e5]; rfl
  · rw [exs_nx (ρ1 := [.h 0, .v (.int wide), s', .v (.int way), .u, .u, .h 1, .v (.int day), .u, .u, .u]) (φ1 := [o3, .lst (sts.map stD)]) (by simp -dsimp [exs, ev, evs, evP, evC, evT, opn, op2, op1, peek, peeks, truX, truth, biD, cmpD, binD, evI, bindT, bindTs, frzX, frzXs, O.toD, X1.sl, ix_tup, ix_lst, ix_rls, atI_0, atI_1, atI_2, atI_3, gtD, modD, fdivD, intD, addD, subD, mulD, Ev.finish, powD, isiD, D.tyn, isT, evF_lst, evF_cat, evF_rep, evF_sl, evF_bil, evF_bis, evF_bid, evF_rng, evF_dnew, evF_ssi, ex1_ex, ex1_nm, ex1_tp, ex1_par, ex1_ret, ex1_ret0, ex1_ite, ex1_sti, leD, ltD, geD, lenD, isD, isnD, isB, D.items, neD, eqD, eqB, w0])]
    by_cases w1 : way = 1
    · obtain ⟨free, most, o5, e5, f1, f2, f3, h5⟩ := scale_tail (b := b) (q := [.lst (sts.map stD), .lst ((sts.take 1).map stD)]) (k := 1) (wide := .v (.int wide)) (s2 := s') (s3 := .v (.int way)) (s7 := .v (.int day)) h3 rfl
      refine ⟨_, o5, ?_, ⟨free, sts.take 1, most, rfl, f1, f2, hv.one, f3⟩, h5⟩
      have hcut : cut (sts.map stD) none (some 1) = (sts.take 1).map stD := by
        rw [List.map_take]; exact cut_to (k := 1)
      rw [exs_nx (ρ1 := [.h 0, .v (.int wide), s', .v (.int way), .u, .u, .h 2, .v (.int day), .u, .u, .u]) (φ1 := [o3, .lst (sts.map stD), .lst ((sts.take 1).map stD)]) (by simp -dsimp [exs, ev, evs, evP, evC, evT, opn, op2, op1, peek, peeks, truX, truth, biD, cmpD, binD, evI, bindT, bindTs, frzX, frzXs, O.toD, X1.sl, ix_tup, ix_lst, ix_rls, atI_0, atI_1, atI_2, atI_3, gtD, modD, fdivD, intD, addD, subD, mulD, Ev.finish, powD, isiD, D.tyn, isT, evF_lst, evF_cat, evF_rep, evF_sl, evF_bil, evF_bis, evF_bid, evF_rng, evF_dnew, evF_ssi, ex1_ex, ex1_nm, ex1_tp, ex1_par, ex1_ret, ex1_ret0, ex1_ite, ex1_sti, leD, ltD, geD, lenD, isD, isnD, isB, D.items, neD, eqD, eqB, w1, slF, hcut])]
      rw [e5]; rfl
    · obtain ⟨free, most, o5, e5, f1, f2, f3, h5⟩ := scale_tail (b := b) (q := [.lst (sts.map stD)]) (k := 0) (wide := .v (.int wide)) (s2 := s') (s3 := .v (.int way)) (s7 := .v (.int day)) h3 rfl
      refine ⟨_, o5, ?_, ⟨free, sts, most, rfl, f1, f2, hv, f3⟩, h5⟩
      rw [exs_nx (ρ1 := [.h 0, .v (.int wide), s', .v (.int way), .u, .u, .h 1, .v (.int day), .u, .u, .u]) (φ1 := [o3, .lst (sts.map stD)]) (by simp -dsimp [exs, ev, evs, evP, evC, evT, opn, op2, op1, peek, peeks, truX, truth, biD, cmpD, binD, evI, bindT, bindTs, frzX, frzXs, O.toD, X1.sl, ix_tup, ix_lst, ix_rls, atI_0, atI_1, atI_2, atI_3, gtD, modD, fdivD, intD, addD, subD, mulD, Ev.finish, powD, isiD, D.tyn, isT, evF_lst, evF_cat, evF_rep, evF_sl, evF_bil, evF_bis, evF_bid, evF_rng, evF_dnew, evF_ssi, ex1_ex, ex1_nm, ex1_tp, ex1_par, ex1_ret, ex1_ret0, ex1_ite, ex1_sti, leD, ltD, geD, lenD, isD, isnD, isB, D.items, neD, eqD, eqB, w1])]
      rw [e5]; rfl
end K38
namespace K38
open PySem Ev
def eachA (e0 : Int) (sts : List (Int × Int)) (c : Int) : Int := (((sts.filter fun p => decide (p.1 ≤ c)).map (·.2)).getLast?).getD e0
def each (sts : List (Int × Int)) (c : Int) : Int := eachA 0 sts c
def tot (sts : List (Int × Int)) : Nat → Int
  | 0 => 0
  | n + 1 => tot sts n + each sts (n + 1)
def cap (most : D) (t : Int) : Int := match most with
  | .int m => if t < m then t else m
  | _ => t
def keysO (sts : List (Int × Int)) : List L2.Key := sts.map fun p => .inl p.1
def valsO (sts : List (Int × Int)) : List D := sts.map fun p => .int p.2
theorem last_getD {α : Type} (x e : α) : ∀ l : List α, ((x :: l).getLast?).getD e = (l.getLast?).getD x
  | [] => rfl
  | y :: l => by rw [List.getLast?_cons_cons]; rw [List.getLast?_eq_some_getLast (l := y :: l) (by simp -dsimp [exs, ev, evs, evP, evC, evT, opn, op2, op1, peek, peeks, truX, truth, biD, cmpD, binD, evI, bindT, bindTs, frzX, frzXs, O.toD, X1.sl, ix_tup, ix_lst, ix_rls, atI_0, atI_1, atI_2, atI_3, gtD, modD, fdivD, intD, addD, subD, mulD, Ev.finish, powD, isiD, D.tyn, isT, evF_lst, evF_cat, evF_rep, evF_sl, evF_bil, evF_bis, evF_bid, evF_rng, evF_dnew, evF_ssi, ex1_ex, ex1_nm, ex1_tp, ex1_par, ex1_ret, ex1_ret0, ex1_ite, ex1_sti, leD, ltD, geD, lenD, isD, isnD, isB, D.items, neD, eqD, eqB])]; rfl
theorem eachA_step : ∀ (sts : List (Int × Int)) (e0 c : Int), (sts.map (·.1)).Pairwise (· < ·) → (valD (keysO sts) (valsO sts) (.inl (c + 1))).getD (.int (eachA e0 sts c)) = .int (eachA e0 sts (c + 1))
  | [], _, _, _ => rfl
  | p :: r, e0, c, h => by
    rw [List.map_cons, List.pairwise_cons] at h
    obtain ⟨h1, h2⟩ := h
    show ((if (Sum.inl p.1 : L2.Key) = .inl (c + 1) then some (.int p.2) else valD (keysO r) (valsO r) (.inl (c + 1)))).getD _ = _
    by_cases hp : p.1 = c + 1
    · have e1 : ∀ c' : Int, c' ≤ c + 1 → r.filter (fun p => decide (p.1 ≤ c')) = [] := fun c' hc => List.filter_eq_nil_iff.mpr fun q hq => by
        have := h1 q.1 (List.mem_map.mpr ⟨q, hq, rfl⟩)
        simp -dsimp [exs, ev, evs, evP, evC, evT, opn, op2, op1, peek, peeks, truX, truth, biD, cmpD, binD, evI, bindT, bindTs, frzX, frzXs, O.toD, X1.sl, ix_tup, ix_lst, ix_rls, atI_0, atI_1, atI_2, atI_3, gtD, modD, fdivD, intD, addD, subD, mulD, Ev.finish, powD, isiD, D.tyn, isT, evF_lst, evF_cat, evF_rep, evF_sl, evF_bil, evF_bis, evF_bid, evF_rng, evF_dnew, evF_ssi, ex1_ex, ex1_nm, ex1_tp, ex1_par, ex1_ret, ex1_ret0, ex1_ite, ex1_sti, leD, ltD, geD, lenD, isD, isnD, isB, D.items, neD, eqD, eqB]; omega
      rw [if_pos (by rw [hp])]
      unfold eachA
      have f2 : (p :: r).filter (fun p => decide (p.1 ≤ c + 1)) = [p] := by
        rw [List.filter_cons_of_pos (by simp -dsimp [exs, ev, evs, evP, evC, evT, opn, op2, op1, peek, peeks, truX, truth, biD, cmpD, binD, evI, bindT, bindTs, frzX, frzXs, O.toD, X1.sl, ix_tup, ix_lst, ix_rls, atI_0, atI_1, atI_2, atI_3, gtD, modD, fdivD, intD, addD, subD, mulD, Ev.finish, powD, isiD, D.tyn, isT, evF_lst, evF_cat, evF_rep, evF_sl, evF_bil, evF_bis, evF_bid, evF_rng, evF_dnew, evF_ssi, ex1_ex, ex1_nm, ex1_tp, ex1_par, ex1_ret, ex1_ret0, ex1_ite, ex1_sti, leD, ltD, geD, lenD, isD, isnD, isB, D.items, neD, eqD, eqB]; omega), e1 (c + 1) (by omega)]
      rw [f2]
      rfl
    · rw [if_neg (fun e => hp (Sum.inl.inj e))]
      by_cases hc : p.1 ≤ c
      · have e1 : ∀ c' : Int, p.1 ≤ c' → eachA e0 (p :: r) c' = eachA p.2 r c' := fun c' hc => by
          unfold eachA
          rw [List.filter_cons, if_pos (by simpa using hc), List.map_cons, last_getD]
        rw [e1 c hc, e1 (c + 1) (by omega)]
        exact eachA_step r p.2 c h2
      · have e1 : ∀ c' : Int, ¬ p.1 ≤ c' → eachA e0 (p :: r) c' = eachA e0 r c' := fun c' hc => by
          unfold eachA
          rw [List.filter_cons, if_neg (by simpa using hc)]
        rw [e1 c hc, e1 (c + 1) (by omega)]
        exact eachA_step r e0 c h2
theorem eachA_mem (e0 : Int) (sts : List (Int × Int)) (c : Int) : eachA e0 sts c = e0 ∨ ∃ p ∈ sts, eachA e0 sts c = p.2 := by
  unfold eachA
  cases h : ((sts.filter fun p => decide (p.1 ≤ c)).map (·.2)).getLast? with
  | none => exact .inl rfl
  | some x =>
    have := List.mem_of_getLast? h
    obtain ⟨p, hp, rfl⟩ := List.mem_map.mp this
    exact .inr ⟨p, (List.mem_filter.mp hp).1, rfl⟩
theorem each_bd {sts : List (Int × Int)} (hv : VSt sts) (c : Int) : 0 ≤ each sts c ∧ each sts c ≤ 30 := by
  rcases eachA_mem 0 sts c with h | ⟨p, hp, h⟩
  · unfold each; omega
  · have := hv.bd p hp
    unfold each; omega
theorem tot_bd {sts : List (Int × Int)} (hv : VSt sts) : ∀ n : Nat, 0 ≤ tot sts n ∧ tot sts n ≤ 30 * n
  | 0 => ⟨Int.le_refl _, Int.le_refl _⟩
  | n + 1 => by
    have := tot_bd hv n
    have := each_bd hv (n + 1)
    unfold tot
    omega
theorem pairs_st : ∀ sts : List (Int × Int), pairsD (sts.map stD) = some (sts.map fun p => (.inl p.1, .int p.2))
  | [] => rfl
  | p :: r => by
    rw [List.map_cons]
    show (match D.key (.int p.1), pairsD (r.map stD) with
      | some x, some ps => some ((x, D.int p.2) :: ps)
      | _, _ => none) = _
    rw [pairs_st r]; rfl
theorem merge_new : ∀ (ps : List (L2.Key × D)) (ks : List L2.Key) (ds : List D), (ks ++ ps.map (·.1)).Nodup → mergeD ks ds ps = (ks ++ ps.map (·.1), ds ++ ps.map (·.2))
  | [], ks, ds, _ => by simp -dsimp [exs, ev, evs, evP, evC, evT, opn, op2, op1, peek, peeks, truX, truth, biD, cmpD, binD, evI, bindT, bindTs, frzX, frzXs, O.toD, X1.sl, ix_tup, ix_lst, ix_rls, atI_0, atI_1, atI_2, atI_3, gtD, modD, fdivD, intD, addD, subD, mulD, Ev.finish, powD, isiD, D.tyn, isT, evF_lst, evF_cat, evF_rep, evF_sl, evF_bil, evF_bis, evF_bid, evF_rng, evF_dnew, evF_ssi, ex1_ex, ex1_nm, ex1_tp, ex1_par, ex1_ret, ex1_ret0, ex1_ite, ex1_sti, leD, ltD, geD, lenD, isD, isnD, isB, D.items, neD, eqD, eqB, mergeD]
  | (k, d) :: r, ks, ds, h => by
    have hk : (ks.any fun x => decide (x = k)) = false := by
      rw [List.any_eq_false]
      intro x hx
      simp -dsimp only [decide_eq_true_eq]
      rintro rfl
      rw [List.map_cons, List.nodup_append] at h
      exact h.2.2 x hx x List.mem_cons_self rfl
    have hd : dputD ks ds k d = (ks ++ [k], ds ++ [d]) := by
      unfold dputD; rw [if_neg (by rw [hk]; decide)]
    show mergeD (dputD ks ds k d).1 (dputD ks ds k d).2 r = _
    rw [hd, merge_new r (ks ++ [k]) (ds ++ [d]) (by simpa using h)]
    simp -dsimp [exs, ev, evs, evP, evC, evT, opn, op2, op1, peek, peeks, truX, truth, biD, cmpD, binD, evI, bindT, bindTs, frzX, frzXs, O.toD, X1.sl, ix_tup, ix_lst, ix_rls, atI_0, atI_1, atI_2, atI_3, gtD, modD, fdivD, intD, addD, subD, mulD, Ev.finish, powD, isiD, D.tyn, isT, evF_lst, evF_cat, evF_rep, evF_sl, evF_bil, evF_bis, evF_bid, evF_rng, evF_dnew, evF_ssi, ex1_ex, ex1_nm, ex1_tp, ex1_par, ex1_ret, ex1_ret0, ex1_ite, ex1_sti, leD, ltD, geD, lenD, isD, isnD, isB, D.items, neD, eqD, eqB]
theorem dict_st {sts : List (Int × Int)} (h : (sts.map (·.1)).Pairwise (· < ·)) : dictF [.tup (sts.map stD)] = some (.dct (keysO sts) (valsO sts)) := by
  have hn : (([] : List L2.Key) ++ (sts.map fun p => ((Sum.inl p.1 : L2.Key), D.int p.2)).map (·.1)).Nodup := by
    rw [List.nil_append, List.map_map]
    have : (sts.map (·.1)).Nodup := h.imp fun h => by omega
    have h2 := List.Pairwise.map (Sum.inl : Int → L2.Key) (S := (· ≠ ·)) (fun a b hab e => hab (Sum.inl.inj e)) this
    rw [List.map_map] at h2
    exact h2
  unfold dictF
  simp -dsimp only [D.items, Option.bind_some, pairs_st, Option.map_some]
  rw [merge_new _ _ _ hn]
  simp -dsimp only [List.nil_append, List.map_map]
  rfl
def ltE (c : Int) : D → Option D
  | .tup [.int a, .int b] => if a ≤ c then some (.int b) else none
  | _ => none
theorem ltE_map (c : Int) : ∀ sts : List (Int × Int), (sts.map stD).filterMap (ltE c) = ((sts.filter fun p => decide (p.1 ≤ c)).map (·.2)).map D.int
  | [] => rfl
  | p :: r => by
    rw [List.map_cons, List.filterMap_cons, List.filter_cons]
    have e : ltE c (stD p) = if p.1 ≤ c then some (.int p.2) else none := rfl
    rw [e, ltE_map c r]
    by_cases h : p.1 ≤ c
    · rw [if_pos h, if_pos (by simpa using h)]; rfl
    · rw [if_neg h, if_neg (by simpa using h)]
theorem each_last {sts : List (Int × Int)} (hv : VSt sts) {c : Int} (hc : 1 ≤ c) : L2.atI ((sts.map stD).filterMap (ltE c)) (-1) = some (.int (each sts c)) := by
  rw [ltE_map, atI_last, List.getLast?_map]
  obtain ⟨ne, len, bd, hd, adj⟩ := hv
  cases sts with
  | nil => exact absurd rfl ne
  | cons p r =>
    have h1 : p.1 = 1 := by simpa using hd
    unfold each eachA
    rw [List.filter_cons, if_pos (by simp -dsimp [exs, ev, evs, evP, evC, evT, opn, op2, op1, peek, peeks, truX, truth, biD, cmpD, binD, evI, bindT, bindTs, frzX, frzXs, O.toD, X1.sl, ix_tup, ix_lst, ix_rls, atI_0, atI_1, atI_2, atI_3, gtD, modD, fdivD, intD, addD, subD, mulD, Ev.finish, powD, isiD, D.tyn, isT, evF_lst, evF_cat, evF_rep, evF_sl, evF_bil, evF_bis, evF_bid, evF_rng, evF_dnew, evF_ssi, ex1_ex, ex1_nm, ex1_tp, ex1_par, ex1_ret, ex1_ret0, ex1_ite, ex1_sti, leD, ltD, geD, lenD, isD, isnD, isB, D.items, neD, eqD, eqB]; omega), List.map_cons]
    rw [List.getLast?_eq_some_getLast (l := p.2 :: _) (by simp -dsimp [exs, ev, evs, evP, evC, evT, opn, op2, op1, peek, peeks, truX, truth, biD, cmpD, binD, evI, bindT, bindTs, frzX, frzXs, O.toD, X1.sl, ix_tup, ix_lst, ix_rls, atI_0, atI_1, atI_2, atI_3, gtD, modD, fdivD, intD, addD, subD, mulD, Ev.finish, powD, isiD, D.tyn, isT, evF_lst, evF_cat, evF_rep, evF_sl, evF_bil, evF_bis, evF_bid, evF_rng, evF_dnew, evF_ssi, ex1_ex, ex1_nm, ex1_tp, ex1_par, ex1_ret, ex1_ret0, ex1_ite, ex1_sti, leD, ltD, geD, lenD, isD, isnD, isB, D.items, neD, eqD, eqB])]
    rfl
end K38
namespace K38
open PySem Ev
structure Sc (free : Int) (sts : List (Int × Int)) (most : D) : Prop where
  f0 : 0 ≤ free
  f4 : free ≤ 4
  v : VSt sts
  m : most = .non ∨ ∃ m, most = .int m ∧ 0 ≤ m ∧ m < 99
abbrev scD (free : Int) (sts : List (Int × Int)) (most : D) : D := .tup [.int free, .tup (sts.map stD), most]
def cst (free : Int) (sts : List (Int × Int)) (most : D) (i : Nat) : Int := cap most (tot sts (i - free.toNat))
def costs (free : Int) (sts : List (Int × Int)) (most : D) : List Int := (List.range 401).map (cst free sts most)
theorem callX_t1new {F : FSem} {a : D} {o : O} {φ : List O} (h : F [.v a] [] = .ok (.h 0) [o]) : callX F [.v a] φ = .ok (.h φ.length) (φ ++ [o]) := by
  have e : (hsOf ([X1.v a].map (resX φ))) = [] := rfl
  have e2 : (renum ([X1.v a].map (resX φ)) 0) = [.v a] := rfl
  unfold callX
  simp -dsimp only [e, e2, List.nodup_nil, if_true, pick, h]
  rfl
theorem st_len {free : Int} {sts : List (Int × Int)} {most : D} (h : Sc free sts most) : (sts.map stD).length ≤ sizeLine := by rw [List.length_map, sizeLine_eq]; have := h.v.len; omega
theorem cst_0 {free : Int} {sts : List (Int × Int)} {most : D} (h : Sc free sts most) : cst free sts most 0 = 0 := by
  unfold cst
  rw [Nat.zero_sub]
  rcases h.m with rfl | ⟨m, rfl, m0, m1⟩
  · rfl
  · show (if (0 : Int) < m then 0 else m) = 0
    split
    · rfl
    · omega
theorem cb_turn {G : List FSem} {free : Int} {sts : List (Int × Int)} {most : D} (h : Sc free sts most) {j : Nat} {ds : List D} {x : Int} {s1 : Sl} (hd : ds.length < 1000) : turnF [] (.nm 1) [
    .asg (.nm 6) (.dg2 (.slot 7) (.slot 1) (.slot 6)),
    .app 5 (.bin .Add (.ix (.slot 5) (.neg (.con (.int 1)))) (.slot 6))] (.int (1 + j)) [.v (scD free sts most), s1, .v (.int free), .v (.tup (sts.map stD)), .v most, .h 0, .v (.int (each sts j)), .v (.dct (keysO sts) (valsO sts)), .u] [.lst (ds ++ [.int x])] = .ok (.nx [.v (scD free sts most), .v (.int (1 + j)), .v (.int free), .v (.tup (sts.map stD)), .v most, .h 0, .v (.int (each sts (j + 1))), .v (.dct (keysO sts) (valsO sts)), .u]) [.lst (ds ++ [.int x] ++ [.int (x + each sts (j + 1))])] := by
  have hs : ds.length + 1 < 16777216 := by omega
  have hst := eachA_step sts 0 j h.v.adj
  rw [Int.add_comm (j : Int) 1] at hst
  unfold turnF
  simp -dsimp only [bindT]
  rw [if_pos (by simp -dsimp [exs, ev, evs, evP, evC, evT, opn, op2, op1, peek, peeks, truX, truth, biD, cmpD, binD, evI, bindT, bindTs, frzX, frzXs, O.toD, X1.sl, ix_tup, ix_lst, ix_rls, atI_0, atI_1, atI_2, atI_3, gtD, modD, fdivD, intD, addD, subD, mulD, Ev.finish, powD, isiD, D.tyn, isT, evF_lst, evF_cat, evF_rep, evF_sl, evF_bil, evF_bis, evF_bid, evF_rng, evF_dnew, evF_ssi, ex1_ex, ex1_nm, ex1_tp, ex1_par, ex1_ret, ex1_ret0, ex1_ite, ex1_sti, leD, ltD, geD, lenD, isD, isnD, isB, D.items, neD, eqD, eqB])]
  show exs _ _ [.v (scD free sts most), .v (.int (1 + j)), .v (.int free), .v (.tup (sts.map stD)), .v most, .h 0, .v (.int (each sts j)), .v (.dct (keysO sts) (valsO sts)), .u] _ = _
  rw [exs_nx (ρ1 := [.v (scD free sts most), .v (.int (1 + j)), .v (.int free), .v (.tup (sts.map stD)), .v most, .h 0, .v (.int (each sts (j + 1))), .v (.dct (keysO sts) (valsO sts)), .u]) (φ1 := [.lst (ds ++ [.int x])]) (by
    have e : (j : Int) + 1 = 1 + j := by omega
    rw [e]
    unfold each
    simp -dsimp [exs, ev, evs, evP, evC, evT, opn, op2, op1, peek, peeks, truX, truth, biD, cmpD, binD, evI, bindT, bindTs, frzX, frzXs, O.toD, X1.sl, ix_tup, ix_lst, ix_rls, atI_0, atI_1, atI_2, atI_3, gtD, modD, fdivD, intD, addD, subD, mulD, Ev.finish, powD, isiD, D.tyn, isT, evF_lst, evF_cat, evF_rep, evF_sl, evF_bil, evF_bis, evF_bid, evF_rng, evF_dnew, evF_ssi, ex1_ex, ex1_nm, ex1_tp, ex1_par, ex1_ret, ex1_ret0, ex1_ite, ex1_sti, leD, ltD, geD, lenD, isD, isnD, isB, D.items, neD, eqD, eqB, dget2D, D.key, hst])]
  rw [exs_nx (ρ1 := [.v (scD free sts most), .v (.int (1 + j)), .v (.int free), .v (.tup (sts.map stD)), .v most, .h 0, .v (.int (each sts (j + 1))), .v (.dct (keysO sts) (valsO sts)), .u]) (φ1 := [.lst (ds ++ [.int x] ++ [.int (x + each sts (j + 1))])]) (by
    rw [ex1_app (i := 5) (j := 0) rfl rfl]
    have hlast : L2.atI (ds ++ [D.int x]) (-1) = some (.int x) := by rw [atI_last, getLast_snoc]
    simp -dsimp [exs, ev, evs, evP, evC, evT, opn, op2, op1, peek, peeks, truX, truth, biD, cmpD, binD, evI, bindT, bindTs, frzX, frzXs, O.toD, X1.sl, ix_tup, ix_lst, ix_rls, atI_0, atI_1, atI_2, atI_3, gtD, modD, fdivD, intD, addD, subD, mulD, Ev.finish, powD, isiD, D.tyn, isT, evF_lst, evF_cat, evF_rep, evF_sl, evF_bil, evF_bis, evF_bid, evF_rng, evF_dnew, evF_ssi, ex1_ex, ex1_nm, ex1_tp, ex1_par, ex1_ret, ex1_ret0, ex1_ite, ex1_sti, leD, ltD, geD, lenD, isD, isnD, isB, D.items, neD, eqD, eqB, negD, hlast, sizeLine_eq, hs])]
  rfl
def totL (free : Int) (sts : List (Int × Int)) (n : Nat) : List D := (List.range n).map fun i => .int (tot sts (i - free.toNat))
theorem tot_pad {free : Int} {sts : List (Int × Int)} (f0 : 0 ≤ free) : (List.replicate (free + 1).toNat [D.int 0]).flatten = totL free sts (free.toNat + 1) := by
  have e : (free + 1).toNat = free.toNat + 1 := by omega
  rw [e]
  unfold totL
  generalize hk : free.toNat = k
  have main : ∀ n, n ≤ k + 1 → (List.replicate n [D.int 0]).flatten = (List.range n).map fun i => D.int (tot sts (i - k)) := by
    intro n
    induction n with
    | zero => intro _; rfl
    | succ n ih =>
      intro hn
      rw [List.range_succ, List.map_append, ← ih (by omega), List.replicate_succ', List.flatten_append]
      have : n - k = 0 := by omega
      simp -dsimp [exs, ev, evs, evP, evC, evT, opn, op2, op1, peek, peeks, truX, truth, biD, cmpD, binD, evI, bindT, bindTs, frzX, frzXs, O.toD, X1.sl, ix_tup, ix_lst, ix_rls, atI_0, atI_1, atI_2, atI_3, gtD, modD, fdivD, intD, addD, subD, mulD, Ev.finish, powD, isiD, D.tyn, isT, evF_lst, evF_cat, evF_rep, evF_sl, evF_bil, evF_bis, evF_bid, evF_rng, evF_dnew, evF_ssi, ex1_ex, ex1_nm, ex1_tp, ex1_par, ex1_ret, ex1_ret0, ex1_ite, ex1_sti, leD, ltD, geD, lenD, isD, isnD, isB, D.items, neD, eqD, eqB, this, tot]
  exact main _ (Nat.le_refl _)
theorem totL_succ {free : Int} {sts : List (Int × Int)} (n : Nat) : totL free sts (n + 1) = totL free sts n ++ [.int (tot sts (n - free.toNat))] := by
  unfold totL
  rw [List.range_succ, List.map_append]; rfl
def capW (most : D) : D → Option D
  | .int t => some (.int (cap most t))
  | _ => none
theorem costs_by_ok {free : Int} {sts : List (Int × Int)} {most : D} (h : Sc free sts most) : F_costs_by [.v (scD free sts most)] [] = .ok (.v (.lst ((costs free sts most).map D.int))) [] := by
  have f0 := h.f0
  have f4 := h.f4
  have hdict := dict_st h.v.adj
  unfold F_costs_by evFn il_costs_by
  simp -dsimp only [List.length_cons, List.length_nil, Nat.reduceAdd, Nat.reduceLeDiff, and_self, if_true]
  rw [exs_nx (ρ1 := [.v (scD free sts most), .u, .v (.int free), .v (.tup (sts.map stD)), .v most, .u, .u, .u, .u]) (φ1 := []) (by simp -dsimp [exs, ev, evs, evP, evC, evT, opn, op2, op1, peek, peeks, truX, truth, biD, cmpD, binD, evI, bindT, bindTs, frzX, frzXs, O.toD, X1.sl, ix_tup, ix_lst, ix_rls, atI_0, atI_1, atI_2, atI_3, gtD, modD, fdivD, intD, addD, subD, mulD, Ev.finish, powD, isiD, D.tyn, isT, evF_lst, evF_cat, evF_rep, evF_sl, evF_bil, evF_bis, evF_bid, evF_rng, evF_dnew, evF_ssi, ex1_ex, ex1_nm, ex1_tp, ex1_par, ex1_ret, ex1_ret0, ex1_ite, ex1_sti, leD, ltD, geD, lenD, isD, isnD, isB, D.items, neD, eqD, eqB, scD])]
  rw [exs_nx (ρ1 := [.v (scD free sts most), .u, .v (.int free), .v (.tup (sts.map stD)), .v most, .h 0, .v (.int 0), .v (.dct (keysO sts) (valsO sts)), .u]) (φ1 := [.lst (totL free sts (free.toNat + 1))]) (by
    have hrep : repF (.lst [.int 0]) (.int (free + 1)) = some (.lst (totL free sts (free.toNat + 1))) := by
      simp -dsimp only [repF]
      rw [← tot_pad f0]
      rw [if_pos ⟨by omega, by omega, by simp -dsimp only [List.length_cons, List.length_nil, sizeLine_eq]; omega⟩]
    simp -dsimp [exs, ev, evs, evP, evC, evT, opn, op2, op1, peek, peeks, truX, truth, biD, cmpD, binD, evI, bindT, bindTs, frzX, frzXs, O.toD, X1.sl, ix_tup, ix_lst, ix_rls, atI_0, atI_1, atI_2, atI_3, gtD, modD, fdivD, intD, addD, subD, mulD, Ev.finish, powD, isiD, D.tyn, isT, evF_lst, evF_cat, evF_rep, evF_sl, evF_bil, evF_bis, evF_bid, evF_rng, evF_dnew, evF_ssi, ex1_ex, ex1_nm, ex1_tp, ex1_par, ex1_ret, ex1_ret0, ex1_ite, ex1_sti, leD, ltD, geD, lenD, isD, isnD, isB, D.items, neD, eqD, eqB, hrep, hdict, sizeLine_eq])]
  have hI : evI [] (.rng2 (.con (.int 1)) (.bin .Add (.bin .Sub (.glo "MOST_DAYS" (.int 400)) (.slot 2)) (.con (.int 1)))) [.v (scD free sts most), .u, .v (.int free), .v (.tup (sts.map stD)), .v most, .h 0, .v (.int 0), .v (.dct (keysO sts) (valsO sts)), .u] [.lst (totL free sts (free.toNat + 1))] = .ok ⟨rngL 1 (400 - free + 1), true, []⟩ [.lst (totL free sts (free.toNat + 1))] := by
    have h1 : inRng (400 - free + 1) = true := by unfold inRng; simp -dsimp [exs, ev, evs, evP, evC, evT, opn, op2, op1, peek, peeks, truX, truth, biD, cmpD, binD, evI, bindT, bindTs, frzX, frzXs, O.toD, X1.sl, ix_tup, ix_lst, ix_rls, atI_0, atI_1, atI_2, atI_3, gtD, modD, fdivD, intD, addD, subD, mulD, Ev.finish, powD, isiD, D.tyn, isT, evF_lst, evF_cat, evF_rep, evF_sl, evF_bil, evF_bis, evF_bid, evF_rng, evF_dnew, evF_ssi, ex1_ex, ex1_nm, ex1_tp, ex1_par, ex1_ret, ex1_ret0, ex1_ite, ex1_sti, leD, ltD, geD, lenD, isD, isnD, isB, D.items, neD, eqD, eqB]; omega
    have h2 : inRng 1 = true := by decide
    simp -dsimp [exs, ev, evs, evP, evC, evT, opn, op2, op1, peek, peeks, truX, truth, biD, cmpD, binD, evI, bindT, bindTs, frzX, frzXs, O.toD, X1.sl, ix_tup, ix_lst, ix_rls, atI_0, atI_1, atI_2, atI_3, gtD, modD, fdivD, intD, addD, subD, mulD, Ev.finish, powD, isiD, D.tyn, isT, evF_lst, evF_cat, evF_rep, evF_sl, evF_bil, evF_bis, evF_bid, evF_rng, evF_dnew, evF_ssi, ex1_ex, ex1_nm, ex1_tp, ex1_par, ex1_ret, ex1_ret0, ex1_ite, ex1_sti, leD, ltD, geD, lenD, isD, isnD, isB, D.items, neD, eqD, eqB, h1, h2]
  obtain ⟨ρ', φ', e, s1, e1, e2⟩ := forL_inv (f := turnF [] (.nm 1) [
    .asg (.nm 6) (.dg2 (.slot 7) (.slot 1) (.slot 6)),
    .app 5 (.bin .Add (.ix (.slot 5) (.neg (.con (.int 1)))) (.slot 6))]) (fun j ρ φ => ∃ s1, ρ = [.v (scD free sts most), s1, .v (.int free), .v (.tup (sts.map stD)), .v most, .h 0, .v (.int (each sts j)), .v (.dct (keysO sts) (valsO sts)), .u] ∧ φ = [.lst (totL free sts (free.toNat + j + 1))]) (rngL 1 (400 - free + 1)) 0 [.v (scD free sts most), .u, .v (.int free), .v (.tup (sts.map stD)), .v most, .h 0, .v (.int 0), .v (.dct (keysO sts) (valsO sts)), .u] [.lst (totL free sts (free.toNat + 1))] ⟨.u, by
      have : each sts ((0 : Nat) : Int) = 0 := by
        unfold each eachA
        have : sts.filter (fun p => decide (p.1 ≤ ((0 : Nat) : Int))) = [] := List.filter_eq_nil_iff.mpr fun p hp => by
          have := (h.v.bd p hp).1
          simp -dsimp [exs, ev, evs, evP, evC, evT, opn, op2, op1, peek, peeks, truX, truth, biD, cmpD, binD, evI, bindT, bindTs, frzX, frzXs, O.toD, X1.sl, ix_tup, ix_lst, ix_rls, atI_0, atI_1, atI_2, atI_3, gtD, modD, fdivD, intD, addD, subD, mulD, Ev.finish, powD, isiD, D.tyn, isT, evF_lst, evF_cat, evF_rep, evF_sl, evF_bil, evF_bis, evF_bid, evF_rng, evF_dnew, evF_ssi, ex1_ex, ex1_nm, ex1_tp, ex1_par, ex1_ret, ex1_ret0, ex1_ite, ex1_sti, leD, ltD, geD, lenD, isD, isnD, isB, D.items, neD, eqD, eqB]; omega
        rw [this]; rfl
      rw [this], rfl⟩ (by
    rintro j d ρ φ hj ⟨s1, e1, e2⟩
    obtain ⟨rfl, hj2⟩ := rngL_at hj
    rw [Nat.zero_add] at *
    subst e1 e2
    have hj3 : j < 400 := by omega
    have e3 := cb_turn (G := []) h (j := j) (ds := totL free sts (free.toNat + j)) (x := tot sts (free.toNat + j - free.toNat)) (s1 := s1) (by simp -dsimp [exs, ev, evs, evP, evC, evT, opn, op2, op1, peek, peeks, truX, truth, biD, cmpD, binD, evI, bindT, bindTs, frzX, frzXs, O.toD, X1.sl, ix_tup, ix_lst, ix_rls, atI_0, atI_1, atI_2, atI_3, gtD, modD, fdivD, intD, addD, subD, mulD, Ev.finish, powD, isiD, D.tyn, isT, evF_lst, evF_cat, evF_rep, evF_sl, evF_bil, evF_bis, evF_bid, evF_rng, evF_dnew, evF_ssi, ex1_ex, ex1_nm, ex1_tp, ex1_par, ex1_ret, ex1_ret0, ex1_ite, ex1_sti, leD, ltD, geD, lenD, isD, isnD, isB, D.items, neD, eqD, eqB, totL]; omega)
    rw [totL_succ]
    refine ⟨_, _, e3, _, by push_cast; rfl, ?_⟩
    have e4 : free.toNat + (j + 1) + 1 = free.toNat + j + 1 + 1 := by omega
    rw [e4, totL_succ (free.toNat + j + 1), totL_succ (free.toNat + j)]
    have e5 : free.toNat + j + 1 - free.toNat = (free.toNat + j - free.toNat) + 1 := by omega
    have e6 : ((free.toNat + j - free.toNat : Nat) : Int) = j := by omega
    rw [e5]
    simp -dsimp only [tot, e6])
  subst e1 e2
  rw [exs_nx (ex1_for hI e)]
  have hu : ∀ φ, unlock ⟨rngL 1 (400 - free + 1), true, []⟩ φ = φ := fun _ => rfl
  rw [hu]
  have e401 : free.toNat + (0 + (rngL 1 (400 - free + 1)).length) + 1 = 401 := by rw [rngL_len]; omega
  rw [e401]
  have hlen : (totL free sts 401).length = 401 := by simp -dsimp [exs, ev, evs, evP, evC, evT, opn, op2, op1, peek, peeks, truX, truth, biD, cmpD, binD, evI, bindT, bindTs, frzX, frzXs, O.toD, X1.sl, ix_tup, ix_lst, ix_rls, atI_0, atI_1, atI_2, atI_3, gtD, modD, fdivD, intD, addD, subD, mulD, Ev.finish, powD, isiD, D.tyn, isT, evF_lst, evF_cat, evF_rep, evF_sl, evF_bil, evF_bis, evF_bid, evF_rng, evF_dnew, evF_ssi, ex1_ex, ex1_nm, ex1_tp, ex1_par, ex1_ret, ex1_ret0, ex1_ite, ex1_sti, leD, ltD, geD, lenD, isD, isnD, isB, D.items, neD, eqD, eqB, totL]
  generalize hs6 : Sl.v (.int (each sts ((0 + (rngL 1 (400 - free + 1)).length : Nat) : Int))) = s6
  have hc : evF [] (.comp [8] (.nm 8) (.seq (.slot 5)) none (.ifx (.cmp .Is (.slot 4) (.con .non)) (.slot 8) (.bi .min [(.slot 8), (.slot 4)]))) [.v (scD free sts most), s1, .v (.int free), .v (.tup (sts.map stD)), .v most, .h 0, s6, .v (.dct (keysO sts) (valsO sts)), .u] [.lst (totL free sts 401)] = .ok (.lst ((costs free sts most).map D.int)) [.lst (totL free sts 401)] := by
    rw [evF_comp2 (wk := ⟨totL free sts 401, true, [(0, totL free sts 401)]⟩) (φ1 := [.lck (totL free sts 401)]) (g := capW most) (by simp -dsimp [exs, ev, evs, evP, evC, evT, opn, op2, op1, peek, peeks, truX, truth, biD, cmpD, binD, evI, bindT, bindTs, frzX, frzXs, O.toD, X1.sl, ix_tup, ix_lst, ix_rls, atI_0, atI_1, atI_2, atI_3, gtD, modD, fdivD, intD, addD, subD, mulD, Ev.finish, powD, isiD, D.tyn, isT, evF_lst, evF_cat, evF_rep, evF_sl, evF_bil, evF_bis, evF_bid, evF_rng, evF_dnew, evF_ssi, ex1_ex, ex1_nm, ex1_tp, ex1_par, ex1_ret, ex1_ret0, ex1_ite, ex1_sti, leD, ltD, geD, lenD, isD, isnD, isB, D.items, neD, eqD, eqB, walkX]) (by rw [hlen, sizeLine_eq]; decide) (by
      intro d hd
      obtain ⟨i, hi, rfl⟩ := List.mem_map.mp hd
      rcases h.m with rfl | ⟨m, rfl, m0, m1⟩
      · simp -dsimp [exs, ev, evs, evP, evC, evT, opn, op2, op1, peek, peeks, truX, truth, biD, cmpD, binD, evI, bindT, bindTs, frzX, frzXs, O.toD, X1.sl, ix_tup, ix_lst, ix_rls, atI_0, atI_1, atI_2, atI_3, gtD, modD, fdivD, intD, addD, subD, mulD, Ev.finish, powD, isiD, D.tyn, isT, evF_lst, evF_cat, evF_rep, evF_sl, evF_bil, evF_bis, evF_bid, evF_rng, evF_dnew, evF_ssi, ex1_ex, ex1_nm, ex1_tp, ex1_par, ex1_ret, ex1_ret0, ex1_ite, ex1_sti, leD, ltD, geD, lenD, isD, isnD, isB, D.items, neD, eqD, eqB, one1, wipeR, capW, cap]
      · have : min (tot sts (i - free.toNat)) m = if tot sts (i - free.toNat) < m then tot sts (i - free.toNat) else m := by
          split <;> omega
        simp -dsimp [exs, ev, evs, evP, evC, evT, opn, op2, op1, peek, peeks, truX, truth, biD, cmpD, binD, evI, bindT, bindTs, frzX, frzXs, O.toD, X1.sl, ix_tup, ix_lst, ix_rls, atI_0, atI_1, atI_2, atI_3, gtD, modD, fdivD, intD, addD, subD, mulD, Ev.finish, powD, isiD, D.tyn, isT, evF_lst, evF_cat, evF_rep, evF_sl, evF_bil, evF_bis, evF_bid, evF_rng, evF_dnew, evF_ssi, ex1_ex, ex1_nm, ex1_tp, ex1_par, ex1_ret, ex1_ret0, ex1_ite, ex1_sti, leD, ltD, geD, lenD, isD, isnD, isB, D.items, neD, eqD, eqB, one1, wipeR, capW, cap, minD, this])]
    have : (totL free sts 401).filterMap (capW most) = (costs free sts most).map D.int := by
      unfold totL costs
      rw [List.filterMap_map, List.map_map]
      show (List.range 401).filterMap (fun i => some (D.int (cst free sts most i))) = _
      rw [List.filterMap_eq_map']; rfl
    rw [this]; rfl
  simp -dsimp [exs, ev, evs, evP, evC, evT, opn, op2, op1, peek, peeks, truX, truth, biD, cmpD, binD, evI, bindT, bindTs, frzX, frzXs, O.toD, X1.sl, ix_tup, ix_lst, ix_rls, atI_0, atI_1, atI_2, atI_3, gtD, modD, fdivD, intD, addD, subD, mulD, Ev.finish, powD, isiD, D.tyn, isT, evF_lst, evF_cat, evF_rep, evF_sl, evF_bil, evF_bis, evF_bid, evF_rng, evF_dnew, evF_ssi, ex1_ex, ex1_nm, ex1_tp, ex1_par, ex1_ret, ex1_ret0, ex1_ite, ex1_sti, leD, ltD, geD, lenD, isD, isnD, isB, D.items, neD, eqD, eqB, hc, -List.map_map]
theorem costs_by_call {free : Int} {sts : List (Int × Int)} {most : D} (h : Sc free sts most) (φ : List O) : callX F_costs_by [.v (scD free sts most)] φ = .ok (.v (.lst ((costs free sts most).map D.int))) φ := callX_a1 (costs_by_ok h)
end K38
namespace K38
open PySem Ev
/-- what is bent: small things, tuples of such -/
def BG : Nat → D → Prop
  | 0, _ => False
  | k + 1, d => (∃ i : Int, d = .int i ∧ i.natAbs ≤ 15000) ∨ d = .non ∨ (∃ s : Str, d = .str s ∧ PyData.strOk s = true ∧ s.length ≤ 20) ∨ ∃ xs, d = .tup xs ∧ xs.length ≤ 64 ∧ ∀ x ∈ xs, BG k x
def wB : Nat → Nat
  | 0 => 0
  | 1 => 20
  | k + 1 => 64 * (wB k + 1)
theorem wB_ge : ∀ k, 0 < k → 20 ≤ wB k
  | 1, _ => Nat.le_refl _
  | k + 2, _ => by
    have := wB_ge (k + 1) (by omega)
    show 20 ≤ 64 * (wB (k + 1) + 1)
    omega
theorem wB_suc : ∀ k, 0 < k → wB (k + 1) = 64 * (wB k + 1)
  | k + 1, _ => rfl
theorem BG.good : ∀ (k : Nat) {d : D}, BG k d → Good d
  | 0, _, h => h.elim
  | k + 1, _, .inl ⟨i, e, _⟩ => e ▸ .int i
  | k + 1, _, .inr (.inl e) => e ▸ .non
  | k + 1, _, .inr (.inr (.inl ⟨s, e, _⟩)) => e ▸ .str s
  | k + 1, _, .inr (.inr (.inr ⟨xs, e, _, h⟩)) => e ▸ .tup xs fun x hx => BG.good k (h x hx)
theorem BG.py : ∀ (k : Nat) {d : D}, k ≤ 60 → BG k d → ∃ p, d.py = some p ∧ RP p (wB k) ∧ PyData.depth p ≤ k
  | 0, _, _, h => h.elim
  | k + 1, _, hk, .inl ⟨i, e, hi⟩ => by
    subst e
    have h1 : i.natAbs < 2 ^ 14 := by omega
    have hlog : i.natAbs.log2 < 14 := by
      by_cases h0 : i.natAbs = 0
      · rw [h0]; decide
      · exact (Nat.log2_lt h0).mpr h1
    refine ⟨.int i, rfl, ⟨?_, rfl, rfl, Nat.zero_le _, ?_, ?_⟩, Nat.zero_le _⟩
    · show decide (i.natAbs.log2 < 1920) = true
      rw [decide_eq_true_eq]; omega
    · have := wB_ge (k + 1) (by omega)
      show (if i == 0 then 0 else i.natAbs.log2 + 1) ≤ _
      split <;> omega
    · show decide ((PyData.shown (.int i)).length ≤ 13) = true
      rw [decide_eq_true_eq]; exact PyData.shown_int_le (by omega)
  | k + 1, _, _, .inr (.inl e) => by subst e; exact ⟨.none, rfl, ⟨rfl, rfl, rfl, Nat.zero_le _, Nat.zero_le _, rfl⟩, Nat.zero_le _⟩
  | k + 1, _, _, .inr (.inr (.inl ⟨s, e, hs, hl⟩)) => by
    subst e
    refine ⟨.str s, rfl, ⟨rfl, rfl, by simpa [PyData.canLay0] using hs, Nat.zero_le _, ?_, rfl⟩, Nat.zero_le _⟩
    have := wB_ge (k + 1) (by omega)
    show s.cps.size ≤ _
    exact Nat.le_trans hl this
  | k + 1, _, hk, .inr (.inr (.inr ⟨xs, e, hl, h⟩)) => by
    subst e
    have main : ∀ xs : List D, (∀ x ∈ xs, BG k x) → ∃ ps, D.pys xs = some ps ∧ PyData.canLayAll0 ps = true ∧ PyData.depthAll ps ≤ k ∧ PyData.showableAll ps = true ∧ PyData.hasDictAll ps = false ∧ PyData.intsShortAll 13 ps = true ∧ PyData.weightAll ps ≤ xs.length * (wB k + 1) := by
      intro xs
      induction xs with
      | nil => intro _; exact ⟨[], rfl, rfl, Nat.zero_le _, rfl, rfl, rfl, by simp -dsimp [exs, ev, evs, evP, evC, evT, opn, op2, op1, peek, peeks, truX, truth, biD, cmpD, binD, evI, bindT, bindTs, frzX, frzXs, O.toD, X1.sl, ix_tup, ix_lst, ix_rls, atI_0, atI_1, atI_2, atI_3, gtD, modD, fdivD, intD, addD, subD, mulD, Ev.finish, powD, isiD, D.tyn, isT, evF_lst, evF_cat, evF_rep, evF_sl, evF_bil, evF_bis, evF_bid, evF_rng, evF_dnew, evF_ssi, ex1_ex, ex1_nm, ex1_tp, ex1_par, ex1_ret, ex1_ret0, ex1_ite, ex1_sti, leD, ltD, geD, lenD, isD, isnD, isB, D.items, neD, eqD, eqB, PyData.weightAll]⟩
      | cons x r ih =>
        intro h
        obtain ⟨p, e1, e2, e3⟩ := BG.py k (by omega) (h x List.mem_cons_self)
        obtain ⟨ps, f1, f2, f3, f4, f5, f6, f7⟩ := ih fun y hy => h y (List.mem_cons_of_mem _ hy)
        refine ⟨p :: ps, by simp -dsimp only [D.pys, e1, f1], ?_, ?_, ?_, ?_, ?_, ?_⟩
        · show (PyData.canLay0 p && PyData.canLayAll0 ps) = true
          rw [e2.cl, f2]; rfl
        · show max (PyData.depth p) (PyData.depthAll ps) ≤ k
          omega
        · show (PyData.showable p && PyData.showableAll ps) = true
          rw [e2.sh, f4]; rfl
        · show (PyData.hasDict p || PyData.hasDictAll ps) = false
          rw [e2.nd, f5]; rfl
        · show (PyData.intsShort 13 p && PyData.intsShortAll 13 ps) = true
          rw [e2.si, f6]; rfl
        · show PyData.weight p + 1 + PyData.weightAll ps ≤ (r.length + 1) * (wB k + 1)
          have := e2.wt
          rw [Nat.add_mul]
          omega
    obtain ⟨ps, f1, f2, f3, f4, f5, f6, f7⟩ := main xs h
    have hdp : PyData.depthAll ps + 1 ≤ k + 1 := by omega
    refine ⟨.tuple ps, by simp -dsimp only [D.py, f1, Option.map_some], ⟨f4, f5, f2, Nat.le_trans hdp hk, ?_, f6⟩, hdp⟩
    show PyData.weightAll ps ≤ _
    by_cases h0 : 0 < k
    · rw [wB_suc k h0]
      exact Nat.le_trans f7 (Nat.mul_le_mul_right _ hl)
    · have : k = 0 := by omega
      subst this
      cases xs with
      | nil =>
        simp -dsimp only [D.pys, Option.some.injEq] at f1
        subst f1
        exact Nat.zero_le _
      | cons x r => exact (h x List.mem_cons_self).elim
theorem BG.rb {k : Nat} {xs : List D} (hk : k ≤ 3) (h : BG k (.tup xs)) : RB (.tup xs) := by
  obtain ⟨p, e, r, _⟩ := BG.py k (by omega) h
  refine rb_tup e r ?_
  have : k = 0 ∨ k = 1 ∨ k = 2 ∨ k = 3 := by omega
  rcases this with rfl | rfl | rfl | rfl <;> decide
theorem neD_nil {k : Nat} {xs : List D} (h : BG k (.tup xs)) (hk : k ≤ 60) (hx : xs ≠ []) : neD (.tup xs) (.tup []) = some (.bl true) := by
  obtain ⟨p, e1, e2, e3⟩ := BG.py k hk h
  exact neD_nilT e1 e2.cl (by omega) hx
theorem strOk_of (x : String) : PyData.strOk (Str.ofString x) = true := by
  rw [Str.ofString_eq_toList]
  unfold PyData.strOk
  rw [Array.all_eq_true']
  intro c hc
  simp -dsimp only [List.mem_toArray, List.mem_map] at hc
  obtain ⟨ch, _, rfl⟩ := hc
  have hv := ch.valid
  simp -dsimp only [decide_eq_true_eq]
  show ch.val.toNat < 0x110000
  unfold UInt32.isValidChar Nat.isValidChar at hv
  omega
theorem rb_strInt {i : Int} (h : i.natAbs ≤ 20000) : RB (.str (Str.ofString (toString i))) := rb_str (strOk_of _) (Nat.le_trans (PyData.shown_int_le (i := i) (by omega)) (by decide))
/-- what repr can tell of what is bent -/
def Sh (d : D) : Prop := ∀ xs, d = .tup xs → xs.length ≤ 100
def OutR (d d' : D) : Prop := (∀ i, d = .int i → RB d') ∧ (∀ (i : Int) (r : List D), d = .tup [.int i, .tup r] → ∀ a b, d' = .tup [a, b] → RB a ∧ Sh b) ∧ Sh d'
theorem addT {a b : List D} (ha : a.length ≤ 100) (hb : b.length ≤ 100) : addD (.tup a) (.tup b) = some (.tup (a ++ b)) := by
  simp -dsimp only [addD]
  rw [if_pos (by rw [sizeLine_eq]; omega)]
theorem addI (i j : Int) : addD (.int i) (.int j) = some (.int (i + j)) := rfl
theorem str_small {i : Int} (h : i.natAbs ≤ 20000) : strD [.int i] = some (.str (toString i)) := by
  simp -dsimp only [strD]
  rw [if_pos (Nat.lt_of_le_of_lt h (Nat.lt_of_lt_of_le (by decide : 20000 < 2 ^ 15) (Nat.pow_le_pow_right (by decide) (by decide))))]
theorem Good.tup2 {a b : List D} (ha : ∀ x ∈ a, Good x) (hb : ∀ x ∈ b, Good x) : Good (.tup (a ++ b)) := .tup _ fun x hx => (List.mem_append.mp hx).elim (ha x) (hb x)
theorem bent_last {G : FSem} {b : Nat} {o : O} {d : D} {s2 s3 : Sl} (h : PotB (b + 1) o) (hd : d = .non ∨ (∃ xs, d = .tup xs) ∨ ∃ s, d = .str s) : ∃ d' o', exs [F_law_of, F_law_take, G] [
  .ite (.and (.bi .isi [(.slot 1), (.glo "int" (.ty .int))]) (.not (.bi .isi [(.slot 1), (.glo "bool" (.ty .bool))]))) [
    .ret (.call 0 [(.slot 0), (.frz (.lst [(.bin .Add (.slot 1) (.con (.int 1))), (.bin .Sub (.slot 1) (.con (.int 1))), (.bin .Sub (.con (.int 0)) (.slot 1)), (.cmp .Eq (.slot 1) (.con (.int 1))), (.con .non), (.bi .str [(.slot 1)]), (.tup [(.slot 1)]), (.con (.int 99)), (.con (.int 100))]))])] [],
  .ret (.call 0 [(.slot 0), (.frz (.lst [(.con (.int 0)), (.con (.int 1)), (.con (.int 2)), (.con (.int 3)), (.con (.str "a")), (.con (.str "b")), (.con (.str "c")), (.con (.str "")), (.con .non), (.tup []), (.frz (.lst [])), (.con (.int 0)), (.frz .dnew)]))])] [.h 0, .v d, s2, s3] [o] = .ok (.rt (.v d')) [o'] ∧ Good d' ∧ ((∀ a b, d' = .tup [a, b] → RB a ∧ Sh b) ∧ Sh d') ∧ PotB b o' := by
  obtain ⟨d', hdm, o', e, h'⟩ := of_call (φ := [o]) (j := 0) (xs := [.int 0, .int 1, .int 2, .int 3, .str "a", .str "b", .str "c", .str "", .non, .tup [], .lst [], .int 0, .dct [] []]) rfl h (by simp -dsimp [exs, ev, evs, evP, evC, evT, opn, op2, op1, peek, peeks, truX, truth, biD, cmpD, binD, evI, bindT, bindTs, frzX, frzXs, O.toD, X1.sl, ix_tup, ix_lst, ix_rls, atI_0, atI_1, atI_2, atI_3, gtD, modD, fdivD, intD, addD, subD, mulD, Ev.finish, powD, isiD, D.tyn, isT, evF_lst, evF_cat, evF_rep, evF_sl, evF_bil, evF_bis, evF_bid, evF_rng, evF_dnew, evF_ssi, ex1_ex, ex1_nm, ex1_tp, ex1_par, ex1_ret, ex1_ret0, ex1_ite, ex1_sti, leD, ltD, geD, lenD, isD, isnD, isB, D.items, neD, eqD, eqB]) (by simp -dsimp [exs, ev, evs, evP, evC, evT, opn, op2, op1, peek, peeks, truX, truth, biD, cmpD, binD, evI, bindT, bindTs, frzX, frzXs, O.toD, X1.sl, ix_tup, ix_lst, ix_rls, atI_0, atI_1, atI_2, atI_3, gtD, modD, fdivD, intD, addD, subD, mulD, Ev.finish, powD, isiD, D.tyn, isT, evF_lst, evF_cat, evF_rep, evF_sl, evF_bil, evF_bis, evF_bid, evF_rng, evF_dnew, evF_ssi, ex1_ex, ex1_nm, ex1_tp, ex1_par, ex1_ret, ex1_ret0, ex1_ite, ex1_sti, leD, ltD, geD, lenD, isD, isnD, isB, D.items, neD, eqD, eqB])
  refine ⟨d', o', ?_, ?_, ?_, h'⟩
  · rcases hd with rfl | ⟨xs, rfl⟩ | ⟨s, rfl⟩
    · simp -dsimp [exs, ev, evs, evP, evC, evT, opn, op2, op1, peek, peeks, truX, truth, biD, cmpD, binD, evI, bindT, bindTs, frzX, frzXs, O.toD, X1.sl, ix_tup, ix_lst, ix_rls, atI_0, atI_1, atI_2, atI_3, gtD, modD, fdivD, intD, addD, subD, mulD, Ev.finish, powD, isiD, D.tyn, isT, evF_lst, evF_cat, evF_rep, evF_sl, evF_bil, evF_bis, evF_bid, evF_rng, evF_dnew, evF_ssi, ex1_ex, ex1_nm, ex1_tp, ex1_par, ex1_ret, ex1_ret0, ex1_ite, ex1_sti, leD, ltD, geD, lenD, isD, isnD, isB, D.items, neD, eqD, eqB, e, sizeLine_eq]
    · simp -dsimp [exs, ev, evs, evP, evC, evT, opn, op2, op1, peek, peeks, truX, truth, biD, cmpD, binD, evI, bindT, bindTs, frzX, frzXs, O.toD, X1.sl, ix_tup, ix_lst, ix_rls, atI_0, atI_1, atI_2, atI_3, gtD, modD, fdivD, intD, addD, subD, mulD, Ev.finish, powD, isiD, D.tyn, isT, evF_lst, evF_cat, evF_rep, evF_sl, evF_bil, evF_bis, evF_bid, evF_rng, evF_dnew, evF_ssi, ex1_ex, ex1_nm, ex1_tp, ex1_par, ex1_ret, ex1_ret0, ex1_ite, ex1_sti, leD, ltD, geD, lenD, isD, isnD, isB, D.items, neD, eqD, eqB, e, sizeLine_eq]
    · simp -dsimp [exs, ev, evs, evP, evC, evT, opn, op2, op1, peek, peeks, truX, truth, biD, cmpD, binD, evI, bindT, bindTs, frzX, frzXs, O.toD, X1.sl, ix_tup, ix_lst, ix_rls, atI_0, atI_1, atI_2, atI_3, gtD, modD, fdivD, intD, addD, subD, mulD, Ev.finish, powD, isiD, D.tyn, isT, evF_lst, evF_cat, evF_rep, evF_sl, evF_bil, evF_bis, evF_bid, evF_rng, evF_dnew, evF_ssi, ex1_ex, ex1_nm, ex1_tp, ex1_par, ex1_ret, ex1_ret0, ex1_ite, ex1_sti, leD, ltD, geD, lenD, isD, isnD, isB, D.items, neD, eqD, eqB, e, sizeLine_eq]
  · simp -dsimp only [List.mem_cons, List.not_mem_nil, or_false] at hdm
    rcases hdm with rfl | rfl | rfl | rfl | rfl | rfl | rfl | rfl | rfl | rfl | rfl | rfl | rfl
    · exact .int _
    · exact .int _
    · exact .int _
    · exact .int _
    · exact .str _
    · exact .str _
    · exact .str _
    · exact .str _
    · exact .non
    · exact .tup _ (by simp -dsimp [exs, ev, evs, evP, evC, evT, opn, op2, op1, peek, peeks, truX, truth, biD, cmpD, binD, evI, bindT, bindTs, frzX, frzXs, O.toD, X1.sl, ix_tup, ix_lst, ix_rls, atI_0, atI_1, atI_2, atI_3, gtD, modD, fdivD, intD, addD, subD, mulD, Ev.finish, powD, isiD, D.tyn, isT, evF_lst, evF_cat, evF_rep, evF_sl, evF_bil, evF_bis, evF_bid, evF_rng, evF_dnew, evF_ssi, ex1_ex, ex1_nm, ex1_tp, ex1_par, ex1_ret, ex1_ret0, ex1_ite, ex1_sti, leD, ltD, geD, lenD, isD, isnD, isB, D.items, neD, eqD, eqB])
    · exact .lst _
    · exact .int _
    · exact .dct _ _
  · simp -dsimp only [List.mem_cons, List.not_mem_nil, or_false] at hdm
    rcases hdm with rfl | rfl | rfl | rfl | rfl | rfl | rfl | rfl | rfl | rfl | rfl | rfl | rfl
    · exact ⟨fun _ _ e => (nomatch e), fun _ e => nomatch e⟩
    · exact ⟨fun _ _ e => (nomatch e), fun _ e => nomatch e⟩
    · exact ⟨fun _ _ e => (nomatch e), fun _ e => nomatch e⟩
    · exact ⟨fun _ _ e => (nomatch e), fun _ e => nomatch e⟩
    · exact ⟨fun _ _ e => (nomatch e), fun _ e => nomatch e⟩
    · exact ⟨fun _ _ e => (nomatch e), fun _ e => nomatch e⟩
    · exact ⟨fun _ _ e => (nomatch e), fun _ e => nomatch e⟩
    · exact ⟨fun _ _ e => (nomatch e), fun _ e => nomatch e⟩
    · exact ⟨fun _ _ e => (nomatch e), fun _ e => nomatch e⟩
    · exact ⟨by intro a b e; simp -dsimp [exs, ev, evs, evP, evC, evT, opn, op2, op1, peek, peeks, truX, truth, biD, cmpD, binD, evI, bindT, bindTs, frzX, frzXs, O.toD, X1.sl, ix_tup, ix_lst, ix_rls, atI_0, atI_1, atI_2, atI_3, gtD, modD, fdivD, intD, addD, subD, mulD, Ev.finish, powD, isiD, D.tyn, isT, evF_lst, evF_cat, evF_rep, evF_sl, evF_bil, evF_bis, evF_bid, evF_rng, evF_dnew, evF_ssi, ex1_ex, ex1_nm, ex1_tp, ex1_par, ex1_ret, ex1_ret0, ex1_ite, ex1_sti, leD, ltD, geD, lenD, isD, isnD, isB, D.items, neD, eqD, eqB] at e, by intro ys ey; cases ey; decide⟩
    · exact ⟨fun _ _ e => (nomatch e), fun _ e => nomatch e⟩
    · exact ⟨fun _ _ e => (nomatch e), fun _ e => nomatch e⟩
    · exact ⟨fun _ _ e => (nomatch e), fun _ e => nomatch e⟩
theorem bent_ok : ∀ (k : Nat) (b : Nat) {d : D} {o : O}, k ≤ 4 → BG k d → PotB (b + 4 * k) o → ∃ d' o', F_law_bent k [.h 0, .v d] [o] = .ok (.v d') [o'] ∧ Good d' ∧ OutR d d' ∧ PotB b o'
  | 0, _, _, _, _, h, _ => h.elim
  | k + 1, b, d, o, hk, h, hP => by
    show ∃ d' o', evFn [F_law_of, F_law_take, F_law_bent k] 2 4 il_law_bent [.h 0, .v d] [o] = _ ∧ _
    have hG := h
    rcases h with ⟨i, rfl, hi⟩ | rfl | ⟨s, rfl, hs⟩ | ⟨xs, rfl, hl, hxs⟩
    · obtain ⟨st, hstr⟩ : ∃ st, strD [.int i] = some (.str st) := ⟨_, str_small (i := i) (by omega)⟩
      obtain ⟨d', hdm, o', e, h'⟩ := of_call (b := b) (φ := [o]) (j := 0) (xs := [.int (i + 1), .int (i - 1), .int (-i), .bl (decide (i = 1)), .non, .str st, .tup [.int i], .int 99, .int 100]) rfl (hP.le (by omega)) (by simp -dsimp [exs, ev, evs, evP, evC, evT, opn, op2, op1, peek, peeks, truX, truth, biD, cmpD, binD, evI, bindT, bindTs, frzX, frzXs, O.toD, X1.sl, ix_tup, ix_lst, ix_rls, atI_0, atI_1, atI_2, atI_3, gtD, modD, fdivD, intD, addD, subD, mulD, Ev.finish, powD, isiD, D.tyn, isT, evF_lst, evF_cat, evF_rep, evF_sl, evF_bil, evF_bis, evF_bid, evF_rng, evF_dnew, evF_ssi, ex1_ex, ex1_nm, ex1_tp, ex1_par, ex1_ret, ex1_ret0, ex1_ite, ex1_sti, leD, ltD, geD, lenD, isD, isnD, isB, D.items, neD, eqD, eqB]) (by simp -dsimp [exs, ev, evs, evP, evC, evT, opn, op2, op1, peek, peeks, truX, truth, biD, cmpD, binD, evI, bindT, bindTs, frzX, frzXs, O.toD, X1.sl, ix_tup, ix_lst, ix_rls, atI_0, atI_1, atI_2, atI_3, gtD, modD, fdivD, intD, addD, subD, mulD, Ev.finish, powD, isiD, D.tyn, isT, evF_lst, evF_cat, evF_rep, evF_sl, evF_bil, evF_bis, evF_bid, evF_rng, evF_dnew, evF_ssi, ex1_ex, ex1_nm, ex1_tp, ex1_par, ex1_ret, ex1_ret0, ex1_ite, ex1_sti, leD, ltD, geD, lenD, isD, isnD, isB, D.items, neD, eqD, eqB])
      refine ⟨d', o', ?_, ?_, ⟨fun _ _ => ?_, fun _ _ e => (nomatch e), ?_⟩, h'⟩
      · unfold evFn il_law_bent
        simp -dsimp [exs, ev, evs, evP, evC, evT, opn, op2, op1, peek, peeks, truX, truth, biD, cmpD, binD, evI, bindT, bindTs, frzX, frzXs, O.toD, X1.sl, ix_tup, ix_lst, ix_rls, atI_0, atI_1, atI_2, atI_3, gtD, modD, fdivD, intD, addD, subD, mulD, Ev.finish, powD, isiD, D.tyn, isT, evF_lst, evF_cat, evF_rep, evF_sl, evF_bil, evF_bis, evF_bid, evF_rng, evF_dnew, evF_ssi, ex1_ex, ex1_nm, ex1_tp, ex1_par, ex1_ret, ex1_ret0, ex1_ite, ex1_sti, leD, ltD, geD, lenD, isD, isnD, isB, D.items, neD, eqD, eqB, hstr, e, sizeLine_eq]
      · simp -dsimp only [List.mem_cons, List.not_mem_nil, or_false] at hdm
        rcases hdm with rfl | rfl | rfl | rfl | rfl | rfl | rfl | rfl | rfl
        · exact .int _
        · exact .int _
        · exact .int _
        · exact .bl _
        · exact .non
        · exact .str _
        · exact .tup _ fun x hx => by rw [List.mem_singleton] at hx; subst hx; exact .int _
        · exact .int _
        · exact .int _
      · simp -dsimp only [List.mem_cons, List.not_mem_nil, or_false] at hdm
        simp -dsimp only [strD] at hstr
        split at hstr
        · cases hstr
          rcases hdm with rfl | rfl | rfl | rfl | rfl | rfl | rfl | rfl | rfl
          · exact rb_int (by omega)
          · exact rb_int (by omega)
          · exact rb_int (by omega)
          · exact rb_bl _
          · exact rb_non
          · exact rb_strInt (by omega)
          · exact BG.rb (k := 2) (by decide) (.inr (.inr (.inr ⟨_, rfl, by simp -dsimp [exs, ev, evs, evP, evC, evT, opn, op2, op1, peek, peeks, truX, truth, biD, cmpD, binD, evI, bindT, bindTs, frzX, frzXs, O.toD, X1.sl, ix_tup, ix_lst, ix_rls, atI_0, atI_1, atI_2, atI_3, gtD, modD, fdivD, intD, addD, subD, mulD, Ev.finish, powD, isiD, D.tyn, isT, evF_lst, evF_cat, evF_rep, evF_sl, evF_bil, evF_bis, evF_bid, evF_rng, evF_dnew, evF_ssi, ex1_ex, ex1_nm, ex1_tp, ex1_par, ex1_ret, ex1_ret0, ex1_ite, ex1_sti, leD, ltD, geD, lenD, isD, isnD, isB, D.items, neD, eqD, eqB], fun x hx => by rw [List.mem_singleton] at hx; subst hx; exact .inl ⟨_, rfl, hi⟩⟩)))
          · exact rb_int (by decide)
          · exact rb_int (by decide)
        · cases hstr
      · simp -dsimp only [List.mem_cons, List.not_mem_nil, or_false] at hdm
        intro ys ey
        rcases hdm with rfl | rfl | rfl | rfl | rfl | rfl | rfl | rfl | rfl
        all_goals first | (cases ey; done) | (cases ey; simp -dsimp [exs, ev, evs, evP, evC, evT, opn, op2, op1, peek, peeks, truX, truth, biD, cmpD, binD, evI, bindT, bindTs, frzX, frzXs, O.toD, X1.sl, ix_tup, ix_lst, ix_rls, atI_0, atI_1, atI_2, atI_3, gtD, modD, fdivD, intD, addD, subD, mulD, Ev.finish, powD, isiD, D.tyn, isT, evF_lst, evF_cat, evF_rep, evF_sl, evF_bil, evF_bis, evF_bid, evF_rng, evF_dnew, evF_ssi, ex1_ex, ex1_nm, ex1_tp, ex1_par, ex1_ret, ex1_ret0, ex1_ite, ex1_sti, leD, ltD, geD, lenD, isD, isnD, isB, D.items, neD, eqD, eqB])
    · obtain ⟨d', o', e, g, g2, h'⟩ := bent_last (G := F_law_bent k) (b := b) (o := o) (d := .non) (s2 := .u) (s3 := .u) (hP.le (by omega)) (.inl rfl)
      refine ⟨d', o', ?_, g, ⟨fun _ e => (nomatch e), fun _ _ e => (nomatch e), g2.2⟩, h'⟩
      unfold evFn il_law_bent
      simp -dsimp only [List.length_cons, List.length_nil, Nat.reduceAdd, Nat.reduceLeDiff, and_self, if_true]
      rw [exs_nx (ρ1 := [.h 0, .v .non, .u, .u]) (φ1 := [o]) (by simp -dsimp [exs, ev, evs, evP, evC, evT, opn, op2, op1, peek, peeks, truX, truth, biD, cmpD, binD, evI, bindT, bindTs, frzX, frzXs, O.toD, X1.sl, ix_tup, ix_lst, ix_rls, atI_0, atI_1, atI_2, atI_3, gtD, modD, fdivD, intD, addD, subD, mulD, Ev.finish, powD, isiD, D.tyn, isT, evF_lst, evF_cat, evF_rep, evF_sl, evF_bil, evF_bis, evF_bid, evF_rng, evF_dnew, evF_ssi, ex1_ex, ex1_nm, ex1_tp, ex1_par, ex1_ret, ex1_ret0, ex1_ite, ex1_sti, leD, ltD, geD, lenD, isD, isnD, isB, D.items, neD, eqD, eqB])]
      rw [e]; rfl
    · obtain ⟨d', o', e, g, g2, h'⟩ := bent_last (G := F_law_bent k) (b := b) (o := o) (d := .str s) (s2 := .u) (s3 := .u) (hP.le (by omega)) (.inr (.inr ⟨_, rfl⟩))
      refine ⟨d', o', ?_, g, ⟨fun _ e => (nomatch e), fun _ _ e => (nomatch e), g2.2⟩, h'⟩
      unfold evFn il_law_bent
      simp -dsimp only [List.length_cons, List.length_nil, Nat.reduceAdd, Nat.reduceLeDiff, and_self, if_true]
      rw [exs_nx (ρ1 := [.h 0, .v (.str s), .u, .u]) (φ1 := [o]) (by simp -dsimp [exs, ev, evs, evP, evC, evT, opn, op2, op1, peek, peeks, truX, truth, biD, cmpD, binD, evI, bindT, bindTs, frzX, frzXs, O.toD, X1.sl, ix_tup, ix_lst, ix_rls, atI_0, atI_1, atI_2, atI_3, gtD, modD, fdivD, intD, addD, subD, mulD, Ev.finish, powD, isiD, D.tyn, isT, evF_lst, evF_cat, evF_rep, evF_sl, evF_bil, evF_bis, evF_bid, evF_rng, evF_dnew, evF_ssi, ex1_ex, ex1_nm, ex1_tp, ex1_par, ex1_ret, ex1_ret0, ex1_ite, ex1_sti, leD, ltD, geD, lenD, isD, isnD, isB, D.items, neD, eqD, eqB])]
      rw [e]; rfl
    · by_cases hx : xs = []
      · subst hx
        obtain ⟨d', o', e, g, g2, h'⟩ := bent_last (G := F_law_bent k) (b := b) (o := o) (d := .tup []) (s2 := .u) (s3 := .u) (hP.le (by omega)) (.inr (.inl ⟨_, rfl⟩))
        refine ⟨d', o', ?_, g, ⟨fun _ e => (nomatch e), fun _ _ _ => g2.1, g2.2⟩, h'⟩
        unfold evFn il_law_bent
        simp -dsimp only [List.length_cons, List.length_nil, Nat.reduceAdd, Nat.reduceLeDiff, and_self, if_true]
        rw [exs_nx (ρ1 := [.h 0, .v (.tup []), .u, .u]) (φ1 := [o]) (by
          have e0 : neD (.tup []) (.tup []) = some (.bl false) := rfl
          simp -dsimp [exs, ev, evs, evP, evC, evT, opn, op2, op1, peek, peeks, truX, truth, biD, cmpD, binD, evI, bindT, bindTs, frzX, frzXs, O.toD, X1.sl, ix_tup, ix_lst, ix_rls, atI_0, atI_1, atI_2, atI_3, gtD, modD, fdivD, intD, addD, subD, mulD, Ev.finish, powD, isiD, D.tyn, isT, evF_lst, evF_cat, evF_rep, evF_sl, evF_bil, evF_bis, evF_bid, evF_rng, evF_dnew, evF_ssi, ex1_ex, ex1_nm, ex1_tp, ex1_par, ex1_ret, ex1_ret0, ex1_ite, ex1_sti, leD, ltD, geD, lenD, isD, isnD, isB, D.items, eqD, eqB, e0])]
        rw [e]; rfl
      have hne := neD_nil hG (by omega) hx
      obtain ⟨r1, o1, e1, a1, b1, h1⟩ := take_call (b := b + 4 * k + 3) (φ := [o]) (j := 0) (u := 5) rfl (hP.le (by omega)) (by decide) (by decide)
      have hgx : ∀ x ∈ xs, Good x := fun x hx => BG.good k (hxs x hx)
      by_cases hr : 0 < r1
      · have hlen : 0 < xs.length := List.length_pos_iff.mpr hx
        obtain ⟨way, o2, e2, a2, b2, h2⟩ := take_call (b := b + 4 * k + 2) (φ := [o1]) (j := 0) (u := 8) rfl h1 (by decide) (by decide)
        obtain ⟨at', o3, e3, a3, b3, h3⟩ := take_call (b := b + 4 * k + 1) (φ := [o2]) (j := 0) (u := xs.length) rfl h2 (by omega) (by omega)
        obtain ⟨n, rfl⟩ := Int.eq_ofNat_of_zero_le a3
        have hn : n < xs.length := by omega
        have c1 : slD (.tup xs) none (some (n : Int)) = some (.tup (xs.take n)) := by show some (D.tup (cut xs none (some (n : Int)))) = _; rw [cut_to]
        have c2 : slD (.tup xs) (some ((n : Int) + 1)) none = some (.tup (xs.drop (n + 1))) := by show some (D.tup (cut xs (some ((n + 1 : Nat) : Int)) none)) = _; rw [cut_fr]
        have c3 : slD (.tup xs) none (some ((n : Int) + 1)) = some (.tup (xs.take (n + 1))) := by show some (D.tup (cut xs none (some ((n + 1 : Nat) : Int)))) = _; rw [cut_to]
        have c4 : slD (.tup xs) (some (n : Int)) none = some (.tup (xs.drop n)) := by show some (D.tup (cut xs (some (n : Int)) none)) = _; rw [cut_fr]
        have l1 : ∀ m, (xs.take m).length ≤ 100 := fun m => by rw [List.length_take]; omega
        have l2 : ∀ m, (xs.drop m).length ≤ 100 := fun m => by rw [List.length_drop]; omega
        have gt : ∀ m, ∀ x ∈ xs.take m, Good x := fun m x hx => hgx x (List.mem_of_mem_take hx)
        have gd : ∀ m, ∀ x ∈ xs.drop m, Good x := fun m x hx => hgx x (List.mem_of_mem_drop hx)
        have hat : L2.atI xs (n : Int) = some xs[n] := by rw [atI_n, List.getElem?_eq_getElem hn]
        unfold evFn il_law_bent
        simp -dsimp only [List.length_cons, List.length_nil, Nat.reduceAdd, Nat.reduceLeDiff, and_self, if_true]
        by_cases hw : way < 4
        · obtain ⟨z, o4, e4, g4, g5, h4⟩ := bent_ok k b (o := o3) (d := xs[n]) (by omega) (hxs _ (List.getElem_mem hn)) (h3.le (by omega))
          have e4c : callX (F_law_bent k) [.h 0, .v xs[n]] [o3] = .ok (.v z) [o4] := callX_p1 (j := 0) rfl h3.live e4
          have q1 := addT (a := xs.take n) (b := [z]) (l1 n) (by simp -dsimp [exs, ev, evs, evP, evC, evT, opn, op2, op1, peek, peeks, truX, truth, biD, cmpD, binD, evI, bindT, bindTs, frzX, frzXs, O.toD, X1.sl, ix_tup, ix_lst, ix_rls, atI_0, atI_1, atI_2, atI_3, gtD, modD, fdivD, intD, addD, subD, mulD, Ev.finish, powD, isiD, D.tyn, isT, evF_lst, evF_cat, evF_rep, evF_sl, evF_bil, evF_bis, evF_bid, evF_rng, evF_dnew, evF_ssi, ex1_ex, ex1_nm, ex1_tp, ex1_par, ex1_ret, ex1_ret0, ex1_ite, ex1_sti, leD, ltD, geD, lenD, isD, isnD, isB, D.items, neD, eqD, eqB])
          have q2 := addT (a := xs.take n ++ [z]) (b := xs.drop (n + 1)) (by rw [List.length_append, List.length_take]; simp -dsimp [exs, ev, evs, evP, evC, evT, opn, op2, op1, peek, peeks, truX, truth, biD, cmpD, binD, evI, bindT, bindTs, frzX, frzXs, O.toD, X1.sl, ix_tup, ix_lst, ix_rls, atI_0, atI_1, atI_2, atI_3, gtD, modD, fdivD, intD, addD, subD, mulD, Ev.finish, powD, isiD, D.tyn, isT, evF_lst, evF_cat, evF_rep, evF_sl, evF_bil, evF_bis, evF_bid, evF_rng, evF_dnew, evF_ssi, ex1_ex, ex1_nm, ex1_tp, ex1_par, ex1_ret, ex1_ret0, ex1_ite, ex1_sti, leD, ltD, geD, lenD, isD, isnD, isB, D.items, neD, eqD, eqB]; omega) (l2 _)
          refine ⟨.tup (xs.take n ++ [z] ++ xs.drop (n + 1)), o4, ?_, .tup2 (fun x hx => ?_) (gd _), ⟨fun _ e => (nomatch e), fun i r e a c e2 => ?_, fun ys ey => ?_⟩, h4⟩
          · simp -dsimp [exs, ev, evs, evP, evC, evT, opn, op2, op1, peek, peeks, truX, truth, biD, cmpD, binD, evI, bindT, bindTs, frzX, frzXs, O.toD, X1.sl, ix_tup, ix_lst, ix_rls, atI_0, atI_1, atI_2, atI_3, gtD, modD, fdivD, intD, subD, mulD, Ev.finish, powD, isiD, D.tyn, isT, evF_lst, evF_cat, evF_rep, evF_sl, evF_bil, evF_bis, evF_bid, evF_rng, evF_dnew, evF_ssi, ex1_ex, ex1_nm, ex1_tp, ex1_par, ex1_ret, ex1_ret0, ex1_ite, ex1_sti, leD, ltD, geD, lenD, isD, isnD, isB, D.items, eqD, eqB, addI, hne, e1, hr, e2, e3, hw, c1, c2, hat, e4c, q1, q2, sizeLine_eq, -List.append_assoc]
          · rcases List.mem_append.mp hx with hx | hx
            · exact gt n x hx
            · rw [List.mem_singleton] at hx; subst hx; exact g4
          · cases e
            have hn2 : n = 0 ∨ n = 1 := by simp -dsimp [exs, ev, evs, evP, evC, evT, opn, op2, op1, peek, peeks, truX, truth, biD, cmpD, binD, evI, bindT, bindTs, frzX, frzXs, O.toD, X1.sl, ix_tup, ix_lst, ix_rls, atI_0, atI_1, atI_2, atI_3, gtD, modD, fdivD, intD, addD, subD, mulD, Ev.finish, powD, isiD, D.tyn, isT, evF_lst, evF_cat, evF_rep, evF_sl, evF_bil, evF_bis, evF_bid, evF_rng, evF_dnew, evF_ssi, ex1_ex, ex1_nm, ex1_tp, ex1_par, ex1_ret, ex1_ret0, ex1_ite, ex1_sti, leD, ltD, geD, lenD, isD, isnD, isB, D.items, neD, eqD, eqB] at hn; omega
            rcases hn2 with rfl | rfl
            · simp -dsimp only [List.take_zero, List.nil_append, List.drop_succ_cons, List.drop_zero, List.singleton_append, D.tup.injEq, List.cons.injEq] at e2
              rw [← e2.1, ← e2.2.1]
              refine ⟨g5.1 _ rfl, fun ys ey => ?_⟩
              cases ey
              have hr := hxs (.tup r) (by simp -dsimp [exs, ev, evs, evP, evC, evT, opn, op2, op1, peek, peeks, truX, truth, biD, cmpD, binD, evI, bindT, bindTs, frzX, frzXs, O.toD, X1.sl, ix_tup, ix_lst, ix_rls, atI_0, atI_1, atI_2, atI_3, gtD, modD, fdivD, intD, addD, subD, mulD, Ev.finish, powD, isiD, D.tyn, isT, evF_lst, evF_cat, evF_rep, evF_sl, evF_bil, evF_bis, evF_bid, evF_rng, evF_dnew, evF_ssi, ex1_ex, ex1_nm, ex1_tp, ex1_par, ex1_ret, ex1_ret0, ex1_ite, ex1_sti, leD, ltD, geD, lenD, isD, isnD, isB, D.items, neD, eqD, eqB])
              cases k with
              | zero => exact hr.elim
              | succ k =>
                rcases hr with ⟨_, e, _⟩ | e | ⟨_, e, _⟩ | ⟨_, e, hl, _⟩
                · cases e
                · cases e
                · cases e
                · cases e; omega
            · simp -dsimp only [List.take_succ_cons, List.take_zero, List.drop_succ_cons, List.drop_nil, List.append_nil, List.singleton_append, D.tup.injEq, List.cons.injEq] at e2
              rw [← e2.1, ← e2.2.1]
              refine ⟨?_, g5.2.2⟩
              have hi := hxs (.int i) (by simp -dsimp [exs, ev, evs, evP, evC, evT, opn, op2, op1, peek, peeks, truX, truth, biD, cmpD, binD, evI, bindT, bindTs, frzX, frzXs, O.toD, X1.sl, ix_tup, ix_lst, ix_rls, atI_0, atI_1, atI_2, atI_3, gtD, modD, fdivD, intD, addD, subD, mulD, Ev.finish, powD, isiD, D.tyn, isT, evF_lst, evF_cat, evF_rep, evF_sl, evF_bil, evF_bis, evF_bid, evF_rng, evF_dnew, evF_ssi, ex1_ex, ex1_nm, ex1_tp, ex1_par, ex1_ret, ex1_ret0, ex1_ite, ex1_sti, leD, ltD, geD, lenD, isD, isnD, isB, D.items, neD, eqD, eqB])
              cases k with
              | zero => exact hi.elim
              | succ k =>
                rcases hi with ⟨_, e, hi⟩ | e | ⟨_, e, _⟩ | ⟨_, e, _⟩
                · cases e; exact rb_int (by omega)
                · cases e
                · cases e
                · cases e
          · cases ey
            rw [List.length_append, List.length_append, List.length_take, List.length_drop, List.length_singleton]
            omega
        · have q1 := addT (a := xs.take n) (b := xs.drop (n + 1)) (l1 n) (l2 _)
          have q2 := addT (a := xs.take (n + 1)) (b := xs.drop n) (l1 _) (l2 _)
          have main : ∀ z, OutR (.tup xs) z → L2.atI [.tup (xs.take n ++ xs.drop (n + 1)), .tup (xs.take (n + 1) ++ xs.drop n), .tup xs.reverse, .lst xs] (way - 4) = some z → Good z → ∃ d' o', Ev.R.bind (exs [F_law_of, F_law_take, F_law_bent k] il_law_bent [.h 0, .v (.tup xs), .u, .u] [o]) (fun o_1 φ1 => match o_1 with
              | .nx _ => finish [o].length (.v .non) φ1
              | .rt x => finish [o].length x φ1) = .ok (.v d') [o'] ∧ Good d' ∧ OutR (.tup xs) d' ∧ PotB b o' := fun z ho hz hg => by
            refine ⟨z, o3, ?_, hg, ho, h3.le (by omega)⟩
            unfold il_law_bent
            simp -dsimp [exs, ev, evs, evP, evC, evT, opn, op2, op1, peek, peeks, truX, truth, biD, cmpD, binD, evI, bindT, bindTs, frzX, frzXs, O.toD, X1.sl, ix_tup, ix_lst, ix_rls, atI_0, atI_1, atI_2, atI_3, gtD, modD, fdivD, intD, subD, mulD, Ev.finish, powD, isiD, D.tyn, isT, evF_lst, evF_cat, evF_rep, evF_sl, evF_bil, evF_bis, evF_bid, evF_rng, evF_dnew, evF_ssi, ex1_ex, ex1_nm, ex1_tp, ex1_par, ex1_ret, ex1_ret0, ex1_ite, ex1_sti, leD, ltD, geD, lenD, isD, isnD, isB, D.items, eqD, eqB, addI, hne, e1, hr, e2, e3, hw, c1, c2, c3, c4, q1, q2, sizeLine_eq, rvD, listF, hz]
          have hww : way = 4 ∨ way = 5 ∨ way = 6 ∨ way = 7 := by omega
          rcases hww with rfl | rfl | rfl | rfl
          · refine main _ ⟨fun _ e => (nomatch e), fun i r e a c e2 => ?_, fun ys ey => by cases ey; rw [List.length_append]; have := l1 n; rw [List.length_take, List.length_drop]; omega⟩ rfl (.tup2 (gt _) (gd _))
            have hq := congrArg (fun d => match d with | D.tup l => l.length | _ => 0) e2
            cases e
            simp -dsimp [exs, ev, evs, evP, evC, evT, opn, op2, op1, peek, peeks, truX, truth, biD, cmpD, binD, evI, bindT, bindTs, frzX, frzXs, O.toD, X1.sl, ix_tup, ix_lst, ix_rls, atI_0, atI_1, atI_2, atI_3, gtD, modD, fdivD, intD, addD, subD, mulD, Ev.finish, powD, isiD, D.tyn, isT, evF_lst, evF_cat, evF_rep, evF_sl, evF_bil, evF_bis, evF_bid, evF_rng, evF_dnew, evF_ssi, ex1_ex, ex1_nm, ex1_tp, ex1_par, ex1_ret, ex1_ret0, ex1_ite, ex1_sti, leD, ltD, geD, lenD, isD, isnD, isB, D.items, neD, eqD, eqB] at hq hn
            omega
          · refine main _ ⟨fun _ e => (nomatch e), fun i r e a c e2 => ?_, fun ys ey => by cases ey; rw [List.length_append, List.length_take, List.length_drop]; omega⟩ rfl (.tup2 (gt _) (gd _))
            have hq := congrArg (fun d => match d with | D.tup l => l.length | _ => 0) e2
            cases e
            simp -dsimp [exs, ev, evs, evP, evC, evT, opn, op2, op1, peek, peeks, truX, truth, biD, cmpD, binD, evI, bindT, bindTs, frzX, frzXs, O.toD, X1.sl, ix_tup, ix_lst, ix_rls, atI_0, atI_1, atI_2, atI_3, gtD, modD, fdivD, intD, addD, subD, mulD, Ev.finish, powD, isiD, D.tyn, isT, evF_lst, evF_cat, evF_rep, evF_sl, evF_bil, evF_bis, evF_bid, evF_rng, evF_dnew, evF_ssi, ex1_ex, ex1_nm, ex1_tp, ex1_par, ex1_ret, ex1_ret0, ex1_ite, ex1_sti, leD, ltD, geD, lenD, isD, isnD, isB, D.items, neD, eqD, eqB] at hq hn
            omega
          · refine main _ ⟨fun _ e => (nomatch e), fun i r e a c e2 => ?_, fun ys ey => by cases ey; rw [List.length_reverse]; omega⟩ rfl (.tup _ fun x hx => hgx x (List.mem_reverse.mp hx))
            cases e
            simp -dsimp only [List.reverse_cons, List.reverse_nil, List.nil_append, List.cons_append, D.tup.injEq, List.cons.injEq] at e2
            rw [← e2.1, ← e2.2.1]
            refine ⟨?_, fun ys ey => nomatch ey⟩
            exact BG.rb (k := k) (by omega) (hxs (.tup r) (by simp -dsimp [exs, ev, evs, evP, evC, evT, opn, op2, op1, peek, peeks, truX, truth, biD, cmpD, binD, evI, bindT, bindTs, frzX, frzXs, O.toD, X1.sl, ix_tup, ix_lst, ix_rls, atI_0, atI_1, atI_2, atI_3, gtD, modD, fdivD, intD, addD, subD, mulD, Ev.finish, powD, isiD, D.tyn, isT, evF_lst, evF_cat, evF_rep, evF_sl, evF_bil, evF_bis, evF_bid, evF_rng, evF_dnew, evF_ssi, ex1_ex, ex1_nm, ex1_tp, ex1_par, ex1_ret, ex1_ret0, ex1_ite, ex1_sti, leD, ltD, geD, lenD, isD, isnD, isB, D.items, neD, eqD, eqB]))
          · exact main _ ⟨fun _ e => (nomatch e), fun i r e a c e2 => (by cases e2), fun ys ey => by cases ey⟩ rfl (.lst _)
      · obtain ⟨d', o', e, g, g2, h'⟩ := bent_last (G := F_law_bent k) (b := b) (o := o1) (d := .tup xs) (s2 := .u) (s3 := .u) (h1.le (by omega)) (.inr (.inl ⟨_, rfl⟩))
        refine ⟨d', o', ?_, g, ⟨fun _ e => (nomatch e), fun _ _ _ => g2.1, g2.2⟩, h'⟩
        unfold evFn il_law_bent
        simp -dsimp only [List.length_cons, List.length_nil, Nat.reduceAdd, Nat.reduceLeDiff, and_self, if_true]
        rw [exs_nx (ρ1 := [.h 0, .v (.tup xs), .u, .u]) (φ1 := [o1]) (by simp -dsimp [exs, ev, evs, evP, evC, evT, opn, op2, op1, peek, peeks, truX, truth, biD, cmpD, binD, evI, bindT, bindTs, frzX, frzXs, O.toD, X1.sl, ix_tup, ix_lst, ix_rls, atI_0, atI_1, atI_2, atI_3, gtD, modD, fdivD, intD, addD, subD, mulD, Ev.finish, powD, isiD, D.tyn, isT, evF_lst, evF_cat, evF_rep, evF_sl, evF_bil, evF_bis, evF_bid, evF_rng, evF_dnew, evF_ssi, ex1_ex, ex1_nm, ex1_tp, ex1_par, ex1_ret, ex1_ret0, ex1_ite, ex1_sti, leD, ltD, geD, lenD, isD, isnD, isB, D.items, eqD, eqB, hne, e1, hr])]
        rw [e]; rfl
end K38
namespace K38
open PySem Ev
theorem st_step {p : Int × Int} (h : 1 ≤ p.1 ∧ p.1 ≤ 400 ∧ 0 ≤ p.2 ∧ p.2 ≤ 30) : stepOk (stD p) = true := by
  simp -dsimp [exs, ev, evs, evP, evC, evT, opn, op2, op1, peek, peeks, truX, truth, biD, cmpD, binD, evI, bindT, bindTs, frzX, frzXs, O.toD, X1.sl, ix_tup, ix_lst, ix_rls, atI_0, atI_1, atI_2, atI_3, gtD, modD, fdivD, intD, addD, subD, mulD, Ev.finish, powD, isiD, D.tyn, isT, evF_lst, evF_cat, evF_rep, evF_sl, evF_bil, evF_bis, evF_bid, evF_rng, evF_dnew, evF_ssi, ex1_ex, ex1_nm, ex1_tp, ex1_par, ex1_ret, ex1_ret0, ex1_ite, ex1_sti, leD, ltD, geD, lenD, isD, isnD, isB, D.items, neD, eqD, eqB, stD, stepOk, btw]; omega
theorem own_st (sts : List (Int × Int)) : (sts.map stD).map own = sts.map (·.1) := by rw [List.map_map]; rfl
theorem Sc.bg {free : Int} {sts : List (Int × Int)} {most : D} (h : Sc free sts most) : BG 4 (scD free sts most) := by
  have f0 := h.f0
  have f4 := h.f4
  refine .inr (.inr (.inr ⟨_, rfl, by simp -dsimp [exs, ev, evs, evP, evC, evT, opn, op2, op1, peek, peeks, truX, truth, biD, cmpD, binD, evI, bindT, bindTs, frzX, frzXs, O.toD, X1.sl, ix_tup, ix_lst, ix_rls, atI_0, atI_1, atI_2, atI_3, gtD, modD, fdivD, intD, addD, subD, mulD, Ev.finish, powD, isiD, D.tyn, isT, evF_lst, evF_cat, evF_rep, evF_sl, evF_bil, evF_bis, evF_bid, evF_rng, evF_dnew, evF_ssi, ex1_ex, ex1_nm, ex1_tp, ex1_par, ex1_ret, ex1_ret0, ex1_ite, ex1_sti, leD, ltD, geD, lenD, isD, isnD, isB, D.items, neD, eqD, eqB], fun x hx => ?_⟩))
  simp -dsimp only [List.mem_cons, List.not_mem_nil, or_false] at hx
  rcases hx with rfl | rfl | rfl
  · exact .inl ⟨free, rfl, by omega⟩
  · refine .inr (.inr (.inr ⟨_, rfl, by rw [List.length_map]; have := h.v.len; omega, fun y hy => ?_⟩))
    obtain ⟨p, hp, rfl⟩ := List.mem_map.mp hy
    have hb := h.v.bd p hp
    refine .inr (.inr (.inr ⟨_, rfl, by simp -dsimp [exs, ev, evs, evP, evC, evT, opn, op2, op1, peek, peeks, truX, truth, biD, cmpD, binD, evI, bindT, bindTs, frzX, frzXs, O.toD, X1.sl, ix_tup, ix_lst, ix_rls, atI_0, atI_1, atI_2, atI_3, gtD, modD, fdivD, intD, addD, subD, mulD, Ev.finish, powD, isiD, D.tyn, isT, evF_lst, evF_cat, evF_rep, evF_sl, evF_bil, evF_bis, evF_bid, evF_rng, evF_dnew, evF_ssi, ex1_ex, ex1_nm, ex1_tp, ex1_par, ex1_ret, ex1_ret0, ex1_ite, ex1_sti, leD, ltD, geD, lenD, isD, isnD, isB, D.items, neD, eqD, eqB], fun z hz => ?_⟩))
    simp -dsimp only [List.mem_cons, List.not_mem_nil, or_false] at hz
    rcases hz with rfl | rfl
    · exact .inl ⟨_, rfl, by omega⟩
    · exact .inl ⟨_, rfl, by omega⟩
  · rcases h.m with rfl | ⟨m, rfl, m0, m1⟩
    · exact .inr (.inl rfl)
    · exact .inl ⟨m, rfl, by omega⟩
theorem Sc.good {free : Int} {sts : List (Int × Int)} {most : D} (h : Sc free sts most) : Good (scD free sts most) := BG.good _ h.bg
theorem Sc.ok {free : Int} {sts : List (Int × Int)} {most : D} (h : Sc free sts most) : okScale (scD free sts most) = true := by
  have f0 := h.f0
  have f4 := h.f4
  have h1 : btw (.int free) 0 99 = true := by simp -dsimp [exs, ev, evs, evP, evC, evT, opn, op2, op1, peek, peeks, truX, truth, biD, cmpD, binD, evI, bindT, bindTs, frzX, frzXs, O.toD, X1.sl, ix_tup, ix_lst, ix_rls, atI_0, atI_1, atI_2, atI_3, gtD, modD, fdivD, intD, addD, subD, mulD, Ev.finish, powD, isiD, D.tyn, isT, evF_lst, evF_cat, evF_rep, evF_sl, evF_bil, evF_bis, evF_bid, evF_rng, evF_dnew, evF_ssi, ex1_ex, ex1_nm, ex1_tp, ex1_par, ex1_ret, ex1_ret0, ex1_ite, ex1_sti, leD, ltD, geD, lenD, isD, isnD, isB, D.items, neD, eqD, eqB, btw]; omega
  have h2 : okSteps (.tup (sts.map stD)) = true := by
    simp -dsimp only [okSteps, own_st, Bool.and_eq_true, decide_eq_true_eq]
    refine ⟨?_, ?_, ?_, h.v.hd, (adj_iff _).mpr h.v.adj⟩
    · rw [List.length_map]; exact List.length_pos_iff.mpr h.v.ne
    · rw [List.length_map]; have := h.v.len; omega
    · rw [List.all_eq_true]
      intro d hd
      obtain ⟨p, hp, rfl⟩ := List.mem_map.mp hd
      exact st_step (h.v.bd p hp)
  have h3 : noneOr most = true := by
    rcases h.m with rfl | ⟨m, rfl, m0, m1⟩
    · rfl
    · simp -dsimp [exs, ev, evs, evP, evC, evT, opn, op2, op1, peek, peeks, truX, truth, biD, cmpD, binD, evI, bindT, bindTs, frzX, frzXs, O.toD, X1.sl, ix_tup, ix_lst, ix_rls, atI_0, atI_1, atI_2, atI_3, gtD, modD, fdivD, intD, addD, subD, mulD, Ev.finish, powD, isiD, D.tyn, isT, evF_lst, evF_cat, evF_rep, evF_sl, evF_bil, evF_bis, evF_bid, evF_rng, evF_dnew, evF_ssi, ex1_ex, ex1_nm, ex1_tp, ex1_par, ex1_ret, ex1_ret0, ex1_ite, ex1_sti, leD, ltD, geD, lenD, isD, isnD, isB, D.items, neD, eqD, eqB, noneOr, btw]; omega
  simp -dsimp [exs, ev, evs, evP, evC, evT, opn, op2, op1, peek, peeks, truX, truth, biD, cmpD, binD, evI, bindT, bindTs, frzX, frzXs, O.toD, X1.sl, ix_tup, ix_lst, ix_rls, atI_0, atI_1, atI_2, atI_3, gtD, modD, fdivD, intD, addD, subD, mulD, Ev.finish, powD, isiD, D.tyn, isT, evF_lst, evF_cat, evF_rep, evF_sl, evF_bil, evF_bis, evF_bid, evF_rng, evF_dnew, evF_ssi, ex1_ex, ex1_nm, ex1_tp, ex1_par, ex1_ret, ex1_ret0, ex1_ite, ex1_sti, leD, ltD, geD, lenD, isD, isnD, isB, D.items, neD, eqD, eqB, okScale, h1, h2, h3]
theorem check_scale_call {free : Int} {sts : List (Int × Int)} {most : D} (h : Sc free sts most) (φ : List O) : callX F_check_scale [.v (scD free sts most)] φ = .ok (.v .non) φ := by
  refine callX_a1 (ψ := []) ?_
  unfold F_check_scale evFn il_check_scale
  simp -dsimp [exs, ev, evs, evP, evC, evT, opn, op2, op1, peek, peeks, truX, truth, biD, cmpD, binD, evI, bindT, bindTs, frzX, frzXs, O.toD, X1.sl, ix_tup, ix_lst, ix_rls, atI_0, atI_1, atI_2, atI_3, gtD, modD, fdivD, intD, addD, subD, mulD, Ev.finish, powD, isiD, D.tyn, isT, evF_lst, evF_cat, evF_rep, evF_sl, evF_bil, evF_bis, evF_bid, evF_rng, evF_dnew, evF_ssi, ex1_ex, ex1_nm, ex1_tp, ex1_par, ex1_ret, ex1_ret0, ex1_ite, ex1_sti, leD, ltD, geD, lenD, isD, isnD, isB, D.items, neD, eqD, eqB, is_scale_call h.good, h.ok]
theorem costs_get {free : Int} {sts : List (Int × Int)} {most : D} {i : Int} (h0 : 0 ≤ i) (h1 : i ≤ 400) : L2.atI ((costs free sts most).map D.int) i = some (.int (cst free sts most i.toNat)) := by
  rw [atI_of h0, List.getElem?_map]
  unfold costs
  rw [List.getElem?_map, List.getElem?_range (by omega)]; rfl
theorem cst_bd {free : Int} {sts : List (Int × Int)} {most : D} (h : Sc free sts most) {i : Nat} (hi : i ≤ 400) : 0 ≤ cst free sts most i ∧ cst free sts most i ≤ 12000 := by
  have := tot_bd h.v (i - free.toNat)
  unfold cst
  rcases h.m with rfl | ⟨m, rfl, m0, m1⟩
  · show 0 ≤ tot _ _ ∧ tot _ _ ≤ 12000
    omega
  · show 0 ≤ (if tot sts (i - free.toNat) < m then tot sts (i - free.toNat) else m) ∧ (if tot sts (i - free.toNat) < m then tot sts (i - free.toNat) else m) ≤ 12000
    split <;> omega
theorem rep_small {i : Int} (h : i.natAbs ≤ 20000) : ∃ st, reprD [.int i] = some (.str st) := by
  refine ⟨Str.ofString (toString i), ?_⟩
  simp -dsimp only [reprD]
  rw [if_pos (Nat.lt_of_le_of_lt h (Nat.lt_of_lt_of_le (by decide : 20000 < 2 ^ 15) (Nat.pow_le_pow_right (by decide) (by decide))))]
theorem rep_bl (b : Bool) : ∃ st, reprD [.bl b] = some (.str st) := ⟨_, rfl⟩
theorem last_cost {free : Int} {sts : List (Int × Int)} {most : D} : L2.atI ((costs free sts most).map D.int) (-1) = some (.int (cst free sts most 400)) := by
  rw [atI_last, List.getLast?_map]
  unfold costs
  rw [List.range_succ, List.map_append]
  simp -dsimp [exs, ev, evs, evP, evC, evT, opn, op2, op1, peek, peeks, truX, truth, biD, cmpD, binD, evI, bindT, bindTs, frzX, frzXs, O.toD, X1.sl, ix_tup, ix_lst, ix_rls, atI_0, atI_1, atI_2, atI_3, gtD, modD, fdivD, intD, addD, subD, mulD, Ev.finish, powD, isiD, D.tyn, isT, evF_lst, evF_cat, evF_rep, evF_sl, evF_bil, evF_bis, evF_bid, evF_rng, evF_dnew, evF_ssi, ex1_ex, ex1_nm, ex1_tp, ex1_par, ex1_ret, ex1_ret0, ex1_ite, ex1_sti, leD, ltD, geD, lenD, isD, isnD, isB, D.items, neD, eqD, eqB]
end K38
namespace K38
open PySem Ev
abbrev Sm := List (Int × Int)
/-! ### tables that grow by a least row -/
def tabG (rows : Sm → Nat → Sm) : Nat → Sm
  | 0 => [(0, 0)]
  | n + 1 => tabG rows n ++ [(mnP (rows (tabG rows n) (n + 1))).getD (0, 0)]
def entG (rows : Sm → Nat → Sm) (n : Nat) : Int × Int := (tabG rows n).getD n (0, 0)
section
variable {rows : Sm → Nat → Sm}
theorem tabG_len : ∀ n, (tabG rows n).length = n + 1
  | 0 => rfl
  | n + 1 => by
    show (tabG rows n ++ [_]).length = _
    rw [List.length_append, tabG_len n]; rfl
theorem entG_suc (n : Nat) : entG rows (n + 1) = (mnP (rows (tabG rows n) (n + 1))).getD (0, 0) := by
  show (tabG rows n ++ [_]).getD (n + 1) (0, 0) = _
  rw [List.getD_eq_getElem?_getD, List.getElem?_append_right (by rw [tabG_len]; exact Nat.le_refl _), tabG_len, Nat.sub_self]
  rfl
theorem tabG_get : ∀ n i, i ≤ n → (tabG rows n)[i]? = some (entG rows i)
  | 0, i, h => by
    have : i = 0 := by omega
    subst this; rfl
  | n + 1, i, h => by
    by_cases hi : i ≤ n
    · show (tabG rows n ++ [_])[i]? = _
      rw [List.getElem?_append_left (by rw [tabG_len]; omega)]
      exact tabG_get n i hi
    · have : i = n + 1 := by omega
      subst this
      rw [entG_suc]
      show (tabG rows n ++ [_])[n + 1]? = _
      rw [List.getElem?_append_right (by rw [tabG_len]; exact Nat.le_refl _), tabG_len, Nat.sub_self]
      rfl
theorem tabG_getD {n i : Nat} (h : i ≤ n) : (tabG rows n).getD i (0, 0) = entG rows i := by
  rw [List.getD_eq_getElem?_getD, tabG_get n i h]; rfl
end
def rowsI (sm : Sm) (T : Sm) (m : Nat) : Sm := sm.zipIdx.map fun q => ((T.getD ((m : Int) - q.1.1).toNat (0, 0)).1 + q.1.2, (q.2 : Int))
def rowsB (c : Nat → Int) (T : Sm) (m : Nat) : Sm := (List.range m).map fun (j : Nat) => ((T.getD (m - (j + 1)) (0, 0)).1 + c (j + 1), (j : Int) + 1)
abbrev L (sm : Sm) (n : Nat) : Int := (entG (rowsI sm) n).1
abbrev B (c : Nat → Int) (n : Nat) : Int := (entG (rowsB c) n).1
structure VSm (sm : Sm) : Prop where
  ne : sm ≠ []
  len : sm.length ≤ 30
  bd : ∀ p ∈ sm, 1 ≤ p.1 ∧ p.1 ≤ 400 ∧ 0 ≤ p.2 ∧ p.2 ≤ 12000
  adj : (sm.map (·.1)).Pairwise (· < ·)
section
variable {sm : Sm}
theorem L_0 : L sm 0 = 0 := rfl
theorem ent_rec (h : VSm sm) {n : Nat} (hn : 1 ≤ n) : ∃ (i : Nat) (p : Int × Int), sm[i]? = some p ∧ entG (rowsI sm) n = (L sm ((n : Int) - p.1).toNat + p.2, (i : Int)) ∧ ∀ q ∈ sm, L sm n ≤ L sm ((n : Int) - q.1).toNat + q.2 := by
  obtain ⟨k, rfl⟩ : ∃ k, n = k + 1 := ⟨n - 1, by omega⟩
  have hrow : ∀ (i : Nat) (p : Int × Int), sm[i]? = some p → (L sm (((k + 1 : Nat) : Int) - p.1).toNat + p.2, (i : Int)) ∈ rowsI sm (tabG (rowsI sm) k) (k + 1) := by
    intro i p hp
    refine List.mem_map.mpr ⟨(p, i), List.mem_zipIdx_iff_getElem?.mpr hp, ?_⟩
    have := (h.bd p (List.mem_of_getElem? hp)).1
    simp only
    rw [tabG_getD (by omega)]
  have hne : rowsI sm (tabG (rowsI sm) k) (k + 1) ≠ [] := by
    intro e
    cases q : sm with
    | nil => exact h.ne q
    | cons p r =>
      have := hrow 0 p (by rw [q]; rfl)
      rw [e] at this; cases this
  obtain ⟨m, e, hm, hle⟩ := mnP_some hne
  have em : entG (rowsI sm) (k + 1) = m := by rw [entG_suc, e]; rfl
  obtain ⟨⟨p, i⟩, hq, rfl⟩ := List.mem_map.mp hm
  have hp : sm[i]? = some p := List.mem_zipIdx_iff_getElem?.mp hq
  have hb := (h.bd p (List.mem_of_getElem? hp)).1
  refine ⟨i, p, hp, ?_, fun q hq => ?_⟩
  · rw [em]
    simp only
    rw [tabG_getD (by omega)]
  · obtain ⟨j, hj⟩ := List.mem_iff_getElem?.mp hq
    have h2 := hle _ (hrow j q hj)
    show (entG (rowsI sm) (k + 1)).1 ≤ _
    rw [em]
    simp only [ltP, Bool.or_eq_false_iff, Bool.and_eq_false_iff, decide_eq_false_iff_not] at h2
    simp only at h2 ⊢
    omega
theorem L_nonneg (h : VSm sm) : ∀ n, 0 ≤ L sm n := by
  intro n
  induction n using Nat.strongRecOn with
  | _ n ih =>
    by_cases h0 : n = 0
    · subst h0; exact Int.le_refl _
    · obtain ⟨i, p, hp, e, _⟩ := ent_rec h (n := n) (by omega)
      have hb := h.bd p (List.mem_of_getElem? hp)
      have := ih ((n : Int) - p.1).toNat (by omega)
      show 0 ≤ (entG (rowsI sm) n).1
      rw [e]
      show 0 ≤ L sm ((n : Int) - p.1).toNat + p.2
      omega
theorem L_bd (h : VSm sm) : ∀ n, L sm n ≤ 12000 * n := by
  intro n
  induction n using Nat.strongRecOn with
  | _ n ih =>
    by_cases h0 : n = 0
    · subst h0; exact Int.le_refl _
    · obtain ⟨i, p, hp, e, _⟩ := ent_rec h (n := n) (by omega)
      have hb := h.bd p (List.mem_of_getElem? hp)
      have := ih ((n : Int) - p.1).toNat (by omega)
      show (entG (rowsI sm) n).1 ≤ _
      rw [e]
      show L sm ((n : Int) - p.1).toNat + p.2 ≤ _
      omega
theorem L_suc (h : VSm sm) : ∀ n, L sm n ≤ L sm (n + 1) := by
  intro n
  induction n using Nat.strongRecOn with
  | _ n ih =>
    by_cases h0 : n = 0
    · subst h0; exact L_nonneg h 1
    · obtain ⟨i, p, hp, e, _⟩ := ent_rec h (n := n + 1) (by omega)
      obtain ⟨_, _, _, _, hle⟩ := ent_rec h (n := n) (by omega)
      have hm := List.mem_of_getElem? hp
      have hb := h.bd p hm
      have h1 := hle p hm
      have e1 : L sm (n + 1) = L sm (((n + 1 : Nat) : Int) - p.1).toNat + p.2 := by
        show (entG (rowsI sm) (n + 1)).1 = _
        rw [e]
      by_cases hc : (n : Int) + 1 ≤ p.1
      · have z1 : ((n : Int) - p.1).toNat = 0 := by omega
        have z2 : (((n + 1 : Nat) : Int) - p.1).toNat = 0 := by omega
        rw [z1] at h1
        rw [z2] at e1
        omega
      · have z : (((n + 1 : Nat) : Int) - p.1).toNat = ((n : Int) - p.1).toNat + 1 := by omega
        rw [z] at e1
        have := ih ((n : Int) - p.1).toNat (by omega)
        omega
theorem L_mono (h : VSm sm) {i j : Nat} (hij : i ≤ j) : L sm i ≤ L sm j := by
  obtain ⟨k, rfl⟩ : ∃ k, j = i + k := ⟨j - i, by omega⟩
  induction k with
  | zero => exact Int.le_refl _
  | succ k ih => exact Int.le_trans (ih (by omega)) (L_suc h (i + k))
theorem L_sub (h : VSm sm) (b : Nat) : ∀ a, L sm (a + b) ≤ L sm a + L sm b := by
  intro a
  induction a using Nat.strongRecOn with
  | _ a ih =>
    by_cases h0 : a = 0
    · subst h0
      rw [Nat.zero_add, L_0]; omega
    · obtain ⟨i, p, hp, e, _⟩ := ent_rec h (n := a) (by omega)
      obtain ⟨_, _, _, _, hle⟩ := ent_rec h (n := a + b) (by omega)
      have hm := List.mem_of_getElem? hp
      have hb := h.bd p hm
      have h1 := hle p hm
      have e1 : L sm a = L sm ((a : Int) - p.1).toNat + p.2 := by
        show (entG (rowsI sm) a).1 = _
        rw [e]
      by_cases hc : p.1 ≤ a
      · have z : (((a + b : Nat) : Int) - p.1).toNat = ((a : Int) - p.1).toNat + b := by omega
        rw [z] at h1
        have := ih ((a : Int) - p.1).toNat (by omega)
        omega
      · have z : ((a : Int) - p.1).toNat = 0 := by omega
        rw [z, L_0] at e1
        have := L_mono h (i := (((a + b : Nat) : Int) - p.1).toNat) (j := b) (by omega)
        omega
theorem L_own (h : VSm sm) {p : Int × Int} (hp : p ∈ sm) : L sm p.1.toNat ≤ p.2 := by
  have hb := h.bd p hp
  obtain ⟨_, _, _, _, hle⟩ := ent_rec h (n := p.1.toNat) (by omega)
  have h1 := hle p hp
  have z : ((p.1.toNat : Nat) : Int) - p.1 = 0 := by omega
  rw [z] at h1
  have h2 : L sm (0 : Int).toNat = 0 := rfl
  omega
end
/-! ### rows of sums -/
def cstS (sm : Sm) (r : List Int) : Int := (r.map fun at' => (sm.getD at'.toNat (0, 0)).2).sum
def ownS (sm : Sm) (r : List Int) : Int := (r.map fun at' => (sm.getD at'.toNat (0, 0)).1).sum
theorem sum_snoc (f : Int → Int) (r : List Int) (x : Int) : ((r ++ [x]).map f).sum = (r.map f).sum + f x := by
  rw [List.map_append, List.sum_append]; simp
theorem sum_perm {l m : List Int} (h : l.Perm m) : l.sum = m.sum := by
  induction h with
  | nil => rfl
  | cons x _ ih => simp only [List.sum_cons, ih]
  | swap x y l => simp only [List.sum_cons]; omega
  | trans _ _ ih1 ih2 => exact ih1.trans ih2
theorem cstS_perm {sm : Sm} {l m : List Int} (h : l.Perm m) : cstS sm l = cstS sm m := sum_perm (h.map _)
theorem ownS_perm {sm : Sm} {l m : List Int} (h : l.Perm m) : ownS sm l = ownS sm m := sum_perm (h.map _)
/-! ### rows below of a scale's own days: cuts -/
def evy (c : Nat → Int) (n : Nat) : Sm := (List.range n).map fun (j : Nat) => ((j : Int) + 1, c (j + 1))
theorem B_rec {c : Nat → Int} {n : Nat} (hn : 1 ≤ n) : (∃ j, 1 ≤ j ∧ j ≤ n ∧ entG (rowsB c) n = (B c (n - j) + c j, (j : Int))) ∧ ∀ j, 1 ≤ j → j ≤ n → B c n ≤ B c (n - j) + c j := by
  obtain ⟨k, rfl⟩ : ∃ k, n = k + 1 := ⟨n - 1, by omega⟩
  have hrow : ∀ j, 1 ≤ j → j ≤ k + 1 → (B c (k + 1 - j) + c j, (j : Int)) ∈ rowsB c (tabG (rowsB c) k) (k + 1) := by
    intro j h1 h2
    refine List.mem_map.mpr ⟨j - 1, List.mem_range.mpr (by omega), ?_⟩
    have z : j - 1 + 1 = j := by omega
    rw [z, tabG_getD (by omega)]
    refine Prod.ext rfl ?_
    show ((j - 1 : Nat) : Int) + 1 = j
    omega
  have hne : rowsB c (tabG (rowsB c) k) (k + 1) ≠ [] := by
    intro e
    have := hrow 1 (by omega) (by omega)
    rw [e] at this; cases this
  obtain ⟨m, e, hm, hle⟩ := mnP_some hne
  have em : entG (rowsB c) (k + 1) = m := by rw [entG_suc, e]; rfl
  obtain ⟨j, hj, rfl⟩ := List.mem_map.mp hm
  rw [List.mem_range] at hj
  refine ⟨⟨j + 1, by omega, by omega, ?_⟩, fun i h1 h2 => ?_⟩
  · rw [em, tabG_getD (by omega)]
    rfl
  · have h3 := hle _ (hrow i h1 h2)
    show (entG (rowsB c) (k + 1)).1 ≤ _
    rw [em]
    simp only [ltP, Bool.or_eq_false_iff, Bool.and_eq_false_iff, decide_eq_false_iff_not] at h3
    simp only at h3 ⊢
    omega
/-- the least row of a scale's own days costs as the least cut -/
theorem L_B {c : Nat → Int} {m : Nat} (hv : VSm (evy c m)) (hc : ∀ i j, i ≤ j → c i ≤ c j) : ∀ n, n ≤ m → L (evy c m) n = B c n := by
  intro n
  induction n using Nat.strongRecOn with
  | _ n ih =>
    intro hn
    by_cases h0 : n = 0
    · subst h0; rfl
    · obtain ⟨i, p, hp, e, hle⟩ := ent_rec hv (n := n) (by omega)
      obtain ⟨⟨j, j1, j2, ej⟩, hB⟩ := B_rec (c := c) (n := n) (by omega)
      have e1 : L (evy c m) n = L (evy c m) ((n : Int) - p.1).toNat + p.2 := by
        show (entG (rowsI (evy c m)) n).1 = _
        rw [e]
      have e2 : B c n = B c (n - j) + c j := by
        show (entG (rowsB c) n).1 = _
        rw [ej]
      have hpm := List.mem_of_getElem? hp
      obtain ⟨d, hd, rfl⟩ := List.mem_map.mp hpm
      rw [List.mem_range] at hd
      simp only at e1
      refine Int.le_antisymm ?_ ?_
      · have hq : (((j - 1 : Nat) : Int) + 1, c (j - 1 + 1)) ∈ evy c m := List.mem_map.mpr ⟨j - 1, List.mem_range.mpr (by omega), rfl⟩
        have h1 := hle _ hq
        simp only at h1
        have z1 : ((n : Int) - (((j - 1 : Nat) : Int) + 1)).toNat = n - j := by omega
        have z2 : j - 1 + 1 = j := by omega
        rw [z1, z2, ih (n - j) (by omega) (by omega)] at h1
        omega
      · by_cases hdn : d + 1 ≤ n
        · have h1 := hB (d + 1) (by omega) hdn
          have z1 : ((n : Int) - ((d : Int) + 1)).toNat = n - (d + 1) := by omega
          rw [z1, ih (n - (d + 1)) (by omega) (by omega)] at e1
          omega
        · have h1 := hB n (by omega) (Nat.le_refl _)
          have z1 : ((n : Int) - ((d : Int) + 1)).toNat = 0 := by omega
          rw [z1] at e1
          have z2 : L (evy c m) 0 = 0 := rfl
          have z3 : B c (n - n) = 0 := by rw [Nat.sub_self]; rfl
          have := hc n (d + 1) (by omega)
          omega
end K38
namespace K38
open PySem Ev
theorem min_prs {rows : Sm} (h : rows ≠ []) : minD [.lst (rows.map prD)] = some (prD ((mnP rows).getD (0, 0))) := by
  have h1 : D.allInts (rows.map prD) = none := by
    cases rows with
    | nil => exact absurd rfl h
    | cons p r => rfl
  have h2 := D.allPairs_map rows
  obtain ⟨m, e, _⟩ := mnP_some h
  show (match D.allInts (rows.map prD) with | some ns => (mnI ns).map D.int | none => ((D.allPairs (rows.map prD)).bind mnP).map prD) = _
  rw [h1]
  show ((D.allPairs (rows.map prD)).bind mnP).map prD = _
  rw [h2, Option.bind_some, e]; rfl
theorem at_prs {T : Sm} {i : Int} (h0 : 0 ≤ i) (h : i.toNat < T.length) : L2.atI (T.map prD) i = some (.tup [.int (T.getD i.toNat (0, 0)).1, .int (T.getD i.toNat (0, 0)).2]) := by
  rw [atI_of h0, List.getElem?_map, List.getElem?_eq_getElem h, List.getD_eq_getElem?_getD, List.getElem?_eq_getElem h]; rfl
def lrW (T : Sm) (m : Int) : D → Option D
  | .wtp [.int i, .tup [.int o, .int c]] => some (.tup [.int ((T.getD (m - o).toNat (0, 0)).1 + c), .int i])
  | _ => none
theorem lrW_map (T : Sm) (m : Nat) : ∀ (sm : Sm) (k : Nat), (enumL (sm.map prD) k).filterMap (lrW T m) = ((sm.zipIdx k).map fun q => ((T.getD ((m : Int) - q.1.1).toNat (0, 0)).1 + q.1.2, (q.2 : Int))).map prD
  | [], _ => rfl
  | p :: r, k => by
    rw [List.map_cons, enumL, List.filterMap_cons, List.zipIdx_cons, List.map_cons, List.map_cons, ← lrW_map T m r (k + 1)]
    rfl
theorem lr_turn {G : List FSem} {sm : Sm} (h : VSm sm) {k : Nat} (hk : k < 100) {n s3 s4 s5 s6 s7 : Sl} : ∃ s4', turnF G (.nm 3) B_least_rows_1 (.int ((k : Int) + 1)) [.v (.tup (sm.map prD)), n, .h 0, s3, s4, s5, s6, s7] [.lst ((tabG (rowsI sm) k).map prD)] = .ok (.nx [.v (.tup (sm.map prD)), n, .h 0, .v (.int ((k : Int) + 1)), s4', s5, s6, s7]) [.lst ((tabG (rowsI sm) (k + 1)).map prD)] := by
  have hC : evF G C_least_rows_1 [.v (.tup (sm.map prD)), n, .h 0, .v (.int ((k : Int) + 1)), s4, s5, s6, s7] [.lst ((tabG (rowsI sm) k).map prD)] = .ok (.lst ((rowsI sm (tabG (rowsI sm) k) (k + 1)).map prD)) [.lst ((tabG (rowsI sm) k).map prD)] := by
    unfold C_least_rows_1
    rw [evF_comp2 (wk := ⟨enumL (sm.map prD), true, []⟩) (φ1 := [.lst ((tabG (rowsI sm) k).map prD)]) (g := lrW (tabG (rowsI sm) k) ((k + 1 : Nat) : Int)) (by simp -dsimp [exs, ev, evs, evP, evC, evT, opn, op2, op1, peek, peeks, truX, truth, biD, cmpD, binD, evI, bindT, bindTs, frzX, frzXs, O.toD, X1.sl, ix_tup, ix_lst, ix_rls, atI_0, atI_1, atI_2, atI_3, gtD, modD, fdivD, intD, addD, subD, mulD, Ev.finish, powD, isiD, D.tyn, isT, evF_lst, evF_cat, evF_rep, evF_sl, evF_bil, evF_bis, evF_bid, evF_rng, evF_dnew, evF_ssi, ex1_ex, ex1_nm, ex1_tp, ex1_par, ex1_ret, ex1_ret0, ex1_ite, ex1_sti, leD, ltD, geD, lenD, isD, isnD, isB, D.items, neD, eqD, eqB, walkX, D.seqs, -List.map_map]) (by simp -dsimp only [enumL_len, List.length_map]; have := h.len; rw [sizeLine_eq]; omega) (by
      intro d hd
      obtain ⟨i, x, rfl, _, _, hx⟩ := enumL_mem hd
      obtain ⟨p, hp, rfl⟩ := List.mem_map.mp hx
      have hb := h.bd p hp
      have ha := at_prs (T := tabG (rowsI sm) k) (i := max 0 ((k : Int) + 1 - p.1)) (by omega) (by rw [tabG_len]; omega)
      have hm : maxD [.int 0, .int ((k : Int) + 1 - p.1)] = some (.int (max 0 ((k : Int) + 1 - p.1))) := rfl
      have hz : (max 0 ((k : Int) + 1 - p.1)).toNat = ((k : Int) + 1 - p.1).toNat := by omega
      rw [hz] at ha
      have hr : lrW (tabG (rowsI sm) k) ((k + 1 : Nat) : Int) (.wtp [.int i, prD p]) = some (.tup [.int (((tabG (rowsI sm) k).getD ((k : Int) + 1 - p.1).toNat (0, 0)).1 + p.2), .int i]) := rfl
      rw [hr]
      simp -dsimp [exs, ev, evs, evP, evC, evT, opn, op2, op1, peek, peeks, truX, truth, biD, cmpD, binD, evI, bindT, bindTs, frzX, frzXs, O.toD, X1.sl, ix_tup, ix_lst, ix_rls, atI_0, atI_1, atI_2, atI_3, gtD, modD, fdivD, intD, addD, subD, mulD, Ev.finish, powD, isiD, D.tyn, isT, evF_lst, evF_cat, evF_rep, evF_sl, evF_bil, evF_bis, evF_bid, evF_rng, evF_dnew, evF_ssi, ex1_ex, ex1_nm, ex1_tp, ex1_par, ex1_ret, ex1_ret0, ex1_ite, ex1_sti, leD, ltD, geD, lenD, isD, isnD, isB, D.items, neD, eqD, eqB, one1, wipeR, prD, hm, ha, sizeLine_eq, -List.map_map])]
    rw [lrW_map]
    rfl
  have hne : rowsI sm (tabG (rowsI sm) k) (k + 1) ≠ [] := by
    intro e
    have := congrArg List.length e
    simp -dsimp only [rowsI, List.length_map, List.length_zipIdx, List.length_nil] at this
    exact h.ne (List.eq_nil_of_length_eq_zero this)
  refine ⟨.v (.lst ((rowsI sm (tabG (rowsI sm) k) (k + 1)).map prD)), ?_⟩
  unfold turnF B_least_rows_1
  simp -dsimp only [bindT]
  rw [if_pos (by simp -dsimp [exs, ev, evs, evP, evC, evT, opn, op2, op1, peek, peeks, truX, truth, biD, cmpD, binD, evI, bindT, bindTs, frzX, frzXs, O.toD, X1.sl, ix_tup, ix_lst, ix_rls, atI_0, atI_1, atI_2, atI_3, gtD, modD, fdivD, intD, addD, subD, mulD, Ev.finish, powD, isiD, D.tyn, isT, evF_lst, evF_cat, evF_rep, evF_sl, evF_bil, evF_bis, evF_bid, evF_rng, evF_dnew, evF_ssi, ex1_ex, ex1_nm, ex1_tp, ex1_par, ex1_ret, ex1_ret0, ex1_ite, ex1_sti, leD, ltD, geD, lenD, isD, isnD, isB, D.items, neD, eqD, eqB])]
  show exs G _ [.v (.tup (sm.map prD)), n, .h 0, .v (.int ((k : Int) + 1)), s4, s5, s6, s7] _ = _
  rw [exs_nx (ρ1 := [.v (.tup (sm.map prD)), n, .h 0, .v (.int ((k : Int) + 1)), .v (.lst ((rowsI sm (tabG (rowsI sm) k) (k + 1)).map prD)), s5, s6, s7]) (φ1 := [.lst ((tabG (rowsI sm) k).map prD)]) (by simp -dsimp [exs, ev, evs, evP, evC, evT, opn, op2, op1, peek, peeks, truX, truth, biD, cmpD, binD, evI, bindT, bindTs, frzX, frzXs, O.toD, X1.sl, ix_tup, ix_lst, ix_rls, atI_0, atI_1, atI_2, atI_3, gtD, modD, fdivD, intD, addD, subD, mulD, Ev.finish, powD, isiD, D.tyn, isT, evF_lst, evF_cat, evF_rep, evF_sl, evF_bil, evF_bis, evF_bid, evF_rng, evF_dnew, evF_ssi, ex1_ex, ex1_nm, ex1_tp, ex1_par, ex1_ret, ex1_ret0, ex1_ite, ex1_sti, leD, ltD, geD, lenD, isD, isnD, isB, D.items, neD, eqD, eqB, hC, -List.map_map])]
  have hmn := min_prs hne
  have hl : ((tabG (rowsI sm) k).map prD).length < sizeLine := by rw [List.length_map, tabG_len, sizeLine_eq]; omega
  rw [exs_nx (ρ1 := [.v (.tup (sm.map prD)), n, .h 0, .v (.int ((k : Int) + 1)), .v (.lst ((rowsI sm (tabG (rowsI sm) k) (k + 1)).map prD)), s5, s6, s7]) (φ1 := [.lst ((tabG (rowsI sm) (k + 1)).map prD)]) (by
    rw [ex1_app (i := 2) (j := 0) rfl rfl]
    have e : (tabG (rowsI sm) (k + 1)).map prD = (tabG (rowsI sm) k).map prD ++ [prD ((mnP (rowsI sm (tabG (rowsI sm) k) (k + 1))).getD (0, 0))] := by
      show (tabG (rowsI sm) k ++ [_]).map prD = _
      rw [List.map_append]; rfl
    rw [e]
    simp -dsimp [exs, ev, evs, evP, evC, evT, opn, op2, op1, peek, peeks, truX, truth, biD, cmpD, binD, evI, bindT, bindTs, frzX, frzXs, O.toD, X1.sl, ix_tup, ix_lst, ix_rls, atI_0, atI_1, atI_2, atI_3, gtD, modD, fdivD, intD, addD, subD, mulD, Ev.finish, powD, isiD, D.tyn, isT, evF_lst, evF_cat, evF_rep, evF_sl, evF_bil, evF_bis, evF_bid, evF_rng, evF_dnew, evF_ssi, ex1_ex, ex1_nm, ex1_tp, ex1_par, ex1_ret, ex1_ret0, ex1_ite, ex1_sti, leD, ltD, geD, lenD, isD, isnD, isB, D.items, neD, eqD, eqB, hmn, hl, -List.map_map, -List.length_map])]
  rfl
theorem least_rows_ok {sm : Sm} (h : VSm sm) {n : Nat} (hn : n ≤ 60) : F_least_rows [.v (.tup (sm.map prD)), .v (.int n)] [] = .ok (.h 0) [.lst ((tabG (rowsI sm) n).map prD)] := by
  unfold F_least_rows evFn il_least_rows
  simp -dsimp only [List.length_cons, List.length_nil, Nat.reduceAdd, Nat.reduceLeDiff, and_self, if_true]
  rw [exs_nx (ρ1 := [.v (.tup (sm.map prD)), .v (.int n), .h 0, .u, .u, .u, .u, .u]) (φ1 := [.lst ((tabG (rowsI sm) 0).map prD)]) (by simp -dsimp [exs, ev, evs, evP, evC, evT, opn, op2, op1, peek, peeks, truX, truth, biD, cmpD, binD, evI, bindT, bindTs, frzX, frzXs, O.toD, X1.sl, ix_tup, ix_lst, ix_rls, atI_0, atI_1, atI_2, atI_3, gtD, modD, fdivD, intD, addD, subD, mulD, Ev.finish, powD, isiD, D.tyn, isT, evF_lst, evF_cat, evF_rep, evF_sl, evF_bil, evF_bis, evF_bid, evF_rng, evF_dnew, evF_ssi, ex1_ex, ex1_nm, ex1_tp, ex1_par, ex1_ret, ex1_ret0, ex1_ite, ex1_sti, leD, ltD, geD, lenD, isD, isnD, isB, D.items, neD, eqD, eqB, tabG, prD, sizeLine_eq])]
  have hI : evI [] (.rng2 (.con (.int 1)) (.bin .Add (.slot 1) (.con (.int 1)))) [.v (.tup (sm.map prD)), .v (.int n), .h 0, .u, .u, .u, .u, .u] [.lst ((tabG (rowsI sm) 0).map prD)] = .ok ⟨rngL 1 ((n : Int) + 1), true, []⟩ [.lst ((tabG (rowsI sm) 0).map prD)] := evI_rng2 (by simp -dsimp [exs, ev, evs, evP, evC, evT, opn, op2, op1, peek, peeks, truX, truth, biD, cmpD, binD, evI, bindT, bindTs, frzX, frzXs, O.toD, X1.sl, ix_tup, ix_lst, ix_rls, atI_0, atI_1, atI_2, atI_3, gtD, modD, fdivD, intD, addD, subD, mulD, Ev.finish, powD, isiD, D.tyn, isT, evF_lst, evF_cat, evF_rep, evF_sl, evF_bil, evF_bis, evF_bid, evF_rng, evF_dnew, evF_ssi, ex1_ex, ex1_nm, ex1_tp, ex1_par, ex1_ret, ex1_ret0, ex1_ite, ex1_sti, leD, ltD, geD, lenD, isD, isnD, isB, D.items, neD, eqD, eqB]) (by simp -dsimp [exs, ev, evs, evP, evC, evT, opn, op2, op1, peek, peeks, truX, truth, biD, cmpD, binD, evI, bindT, bindTs, frzX, frzXs, O.toD, X1.sl, ix_tup, ix_lst, ix_rls, atI_0, atI_1, atI_2, atI_3, gtD, modD, fdivD, intD, addD, subD, mulD, Ev.finish, powD, isiD, D.tyn, isT, evF_lst, evF_cat, evF_rep, evF_sl, evF_bil, evF_bis, evF_bid, evF_rng, evF_dnew, evF_ssi, ex1_ex, ex1_nm, ex1_tp, ex1_par, ex1_ret, ex1_ret0, ex1_ite, ex1_sti, leD, ltD, geD, lenD, isD, isnD, isB, D.items, neD, eqD, eqB]) (by decide) (inRng_of (by omega) (by omega))
  obtain ⟨ρ', φ', e, s3, s4, r1, r2⟩ := forL_inv (f := turnF [] (.nm 3) B_least_rows_1) (fun j ρ φ => ∃ s3 s4, ρ = [.v (.tup (sm.map prD)), .v (.int n), .h 0, s3, s4, .u, .u, .u] ∧ φ = [.lst ((tabG (rowsI sm) j).map prD)]) (rngL 1 ((n : Int) + 1)) 0 [.v (.tup (sm.map prD)), .v (.int n), .h 0, .u, .u, .u, .u, .u] [.lst ((tabG (rowsI sm) 0).map prD)] ⟨.u, .u, rfl, rfl⟩ (by
    rintro j d ρ φ hj ⟨s3, s4, r1, r2⟩
    obtain ⟨rfl, hj2⟩ := rngL_at hj
    rw [Nat.zero_add] at *
    subst r1 r2
    obtain ⟨s4', e⟩ := lr_turn (G := []) h (k := j) (by omega) (n := .v (.int n)) (s3 := s3) (s4 := s4) (s5 := .u) (s6 := .u) (s7 := .u)
    rw [show (1 : Int) + j = (j : Int) + 1 by omega]
    exact ⟨_, _, e, _, s4', rfl, rfl⟩)
  have hlen : 0 + (rngL 1 ((n : Int) + 1)).length = n := by rw [rngL_len]; omega
  rw [hlen] at r2
  subst r1 r2
  rw [exs_nx (ex1_for hI e)]
  simp -dsimp [exs, ev, evs, evP, evC, evT, opn, op2, op1, peek, peeks, truX, truth, biD, cmpD, binD, evI, bindT, bindTs, frzX, frzXs, O.toD, X1.sl, ix_tup, ix_lst, ix_rls, atI_0, atI_1, atI_2, atI_3, gtD, modD, fdivD, intD, addD, subD, mulD, Ev.finish, powD, isiD, D.tyn, isT, evF_lst, evF_cat, evF_rep, evF_sl, evF_bil, evF_bis, evF_bid, evF_rng, evF_dnew, evF_ssi, ex1_ex, ex1_nm, ex1_tp, ex1_par, ex1_ret, ex1_ret0, ex1_ite, ex1_sti, leD, ltD, geD, lenD, isD, isnD, isB, D.items, neD, eqD, eqB, unlock, unlockL, -List.map_map]
theorem callX_t2n {F : FSem} {a a' : D} {o : O} {φ : List O} (h : F [.v a, .v a'] [] = .ok (.h 0) [o]) : callX F [.v a, .v a'] φ = .ok (.h φ.length) (φ ++ [o]) := by
  have e : (hsOf ([X1.v a, X1.v a'].map (resX φ))) = [] := rfl
  have e2 : (renum ([X1.v a, X1.v a'].map (resX φ)) 0) = [.v a, .v a'] := rfl
  unfold callX
  simp -dsimp only [e, e2, List.nodup_nil, if_true, pick, h]
  rfl
theorem callX_t3n {F : FSem} {a a' a'' : D} {o : O} {φ : List O} (h : F [.v a, .v a', .v a''] [] = .ok (.h 0) [o]) : callX F [.v a, .v a', .v a''] φ = .ok (.h φ.length) (φ ++ [o]) := by
  have e : (hsOf ([X1.v a, X1.v a', X1.v a''].map (resX φ))) = [] := rfl
  have e2 : (renum ([X1.v a, X1.v a', X1.v a''].map (resX φ)) 0) = [.v a, .v a', .v a''] := rfl
  unfold callX
  simp -dsimp only [e, e2, List.nodup_nil, if_true, pick, h]
  rfl
end K38
namespace K38
open PySem Ev
theorem check_days_call {i l : Int} (h0 : l ≤ i) (h1 : i ≤ 400) (φ : List O) : callX F_check_days [.v (.int i), .v (.int l)] φ = .ok (.v .non) φ := by
  refine callX_a2 (ψ := []) ?_
  have : btw (.int i) l 400 = true := by simp -dsimp [exs, ev, evs, evP, evC, evT, opn, op2, op1, peek, peeks, truX, truth, biD, cmpD, binD, bindT, bindTs, frzX, frzXs, O.toD, X1.sl, ix_tup, ix_lst, ix_rls, atI_0, atI_1, atI_2, atI_3, gtD, modD, fdivD, intD, addD, subD, mulD, Ev.finish, powD, isiD, D.tyn, isT, evF_lst, evF_cat, evF_rep, evF_sl, evF_bil, evF_bis, evF_bid, evF_rng, evF_dnew, evF_ssi, ex1_ex, ex1_nm, ex1_tp, ex1_par, ex1_ret, ex1_ret0, ex1_ite, ex1_sti, leD, ltD, geD, lenD, isD, isnD, isB, D.items, neD, eqD, eqB, btw]; omega
  unfold F_check_days evFn il_check_days
  simp -dsimp [exs, ev, evs, evP, evC, evT, opn, op2, op1, peek, peeks, truX, truth, biD, cmpD, binD, bindT, bindTs, frzX, frzXs, O.toD, X1.sl, ix_tup, ix_lst, ix_rls, atI_0, atI_1, atI_2, atI_3, gtD, modD, fdivD, intD, addD, subD, mulD, Ev.finish, powD, isiD, D.tyn, isT, evF_lst, evF_cat, evF_rep, evF_sl, evF_bil, evF_bis, evF_bid, evF_rng, evF_dnew, evF_ssi, ex1_ex, ex1_nm, ex1_tp, ex1_par, ex1_ret, ex1_ret0, ex1_ite, ex1_sti, leD, ltD, geD, lenD, isD, isnD, isB, D.items, neD, eqD, eqB, is_between_call (.int i), this]
def bcW (T : Sm) (c : Nat → Int) (m : Int) : D → Option D
  | .int j => some (.tup [.int ((T.getD (m - j).toNat (0, 0)).1 + c j.toNat), .int j])
  | _ => none
theorem fm_map {α β : Type} {f : α → Option β} {g : α → β} : ∀ l : List α, (∀ x ∈ l, f x = some (g x)) → l.filterMap f = l.map g
  | [], _ => rfl
  | x :: l, h => by
    rw [List.filterMap_cons, h x List.mem_cons_self, List.map_cons, fm_map l fun y hy => h y (List.mem_cons_of_mem _ hy)]
theorem bcW_map (T : Sm) (c : Nat → Int) (m : Nat) : (rngL 1 ((m : Int) + 1)).filterMap (bcW T c m) = (rowsB c T m).map prD := by
  unfold rngL rowsB
  rw [List.filterMap_map, List.map_map]
  have e : ((m : Int) + 1 - 1).toNat = m := by omega
  rw [e]
  refine fm_map _ fun j hj => ?_
  rw [List.mem_range] at hj
  have e1 : ((m : Int) - (1 + (j : Int))).toNat = m - (j + 1) := by omega
  have e2 : (1 + (j : Int)).toNat = j + 1 := by omega
  show some (D.tup [.int ((T.getD ((m : Int) - (1 + (j : Int))).toNat (0, 0)).1 + c (1 + (j : Int)).toNat), .int (1 + (j : Int))]) = _
  rw [e1, e2, Int.add_comm 1]; rfl
theorem bc_turn {G : List FSem} {free : Int} {sts : List (Int × Int)} {most : D} (h : Sc free sts most) {k : Nat} (hk : k < 100) {n s4 : Sl} : turnF G (.nm 4) B_best_cuts_1 (.int ((k : Int) + 1)) [.v (.lst ((costs free sts most).map D.int)), n, .v (.int 1), .h 0, s4, .u] [.lst ((tabG (rowsB (cst free sts most)) k).map prD)] = .ok (.nx [.v (.lst ((costs free sts most).map D.int)), n, .v (.int 1), .h 0, .v (.int ((k : Int) + 1)), .u]) [.lst ((tabG (rowsB (cst free sts most)) (k + 1)).map prD)] := by
  have hC : evF G C_best_cuts_1 [.v (.lst ((costs free sts most).map D.int)), n, .v (.int 1), .h 0, .v (.int ((k : Int) + 1)), .u] [.lst ((tabG (rowsB (cst free sts most)) k).map prD)] = .ok (.lst ((rowsB (cst free sts most) (tabG (rowsB (cst free sts most)) k) (k + 1)).map prD)) [.lst ((tabG (rowsB (cst free sts most)) k).map prD)] := by
    unfold C_best_cuts_1
    rw [evF_comp2 (wk := ⟨rngL 1 ((k : Int) + 1 + 1), true, []⟩) (φ1 := [.lst ((tabG (rowsB (cst free sts most)) k).map prD)]) (g := bcW (tabG (rowsB (cst free sts most)) k) (cst free sts most) ((k + 1 : Nat) : Int)) (evI_rng2 (by simp -dsimp [exs, ev, evs, evP, evC, evT, opn, op2, op1, peek, peeks, truX, truth, biD, cmpD, binD, bindT, bindTs, frzX, frzXs, O.toD, X1.sl, ix_tup, ix_lst, ix_rls, atI_0, atI_1, atI_2, atI_3, gtD, modD, fdivD, intD, addD, subD, mulD, Ev.finish, powD, isiD, D.tyn, isT, evF_lst, evF_cat, evF_rep, evF_sl, evF_bil, evF_bis, evF_bid, evF_rng, evF_dnew, evF_ssi, ex1_ex, ex1_nm, ex1_tp, ex1_par, ex1_ret, ex1_ret0, ex1_ite, ex1_sti, leD, ltD, geD, lenD, isD, isnD, isB, D.items, neD, eqD, eqB]) (by simp -dsimp [exs, ev, evs, evP, evC, evT, opn, op2, op1, peek, peeks, truX, truth, biD, cmpD, binD, bindT, bindTs, frzX, frzXs, O.toD, X1.sl, ix_tup, ix_lst, ix_rls, atI_0, atI_1, atI_2, atI_3, gtD, modD, fdivD, intD, addD, subD, mulD, Ev.finish, powD, isiD, D.tyn, isT, evF_lst, evF_cat, evF_rep, evF_sl, evF_bil, evF_bis, evF_bid, evF_rng, evF_dnew, evF_ssi, ex1_ex, ex1_nm, ex1_tp, ex1_par, ex1_ret, ex1_ret0, ex1_ite, ex1_sti, leD, ltD, geD, lenD, isD, isnD, isB, D.items, neD, eqD, eqB]) (by decide) (inRng_of (by omega) (by omega))) (by simp -dsimp only [rngL_len]; rw [sizeLine_eq]; omega) (by
      intro d hd
      obtain ⟨j, rfl, j1, j2⟩ := rngL_mem hd
      have ha := at_prs (T := tabG (rowsB (cst free sts most)) k) (i := (k : Int) + 1 - j) (by omega) (by rw [tabG_len]; omega)
      have hc := costs_get (free := free) (sts := sts) (most := most) (i := j) (by omega) (by omega)
      have hm : mulOk 1 (cst free sts most j.toNat) = true := mul_ok_l (by decide)
      have hr : bcW (tabG (rowsB (cst free sts most)) k) (cst free sts most) ((k + 1 : Nat) : Int) (.int j) = some (.tup [.int (((tabG (rowsB (cst free sts most)) k).getD ((k : Int) + 1 - j).toNat (0, 0)).1 + cst free sts most j.toNat), .int j]) := rfl
      rw [hr]
      simp -dsimp [exs, ev, evs, evP, evC, evT, opn, op2, op1, peek, peeks, truX, truth, biD, cmpD, binD, bindT, bindTs, frzX, frzXs, O.toD, X1.sl, ix_tup, ix_lst, ix_rls, atI_0, atI_1, atI_2, atI_3, gtD, modD, fdivD, intD, addD, subD, mulD, Ev.finish, powD, isiD, D.tyn, isT, evF_lst, evF_cat, evF_rep, evF_sl, evF_bil, evF_bis, evF_bid, evF_rng, evF_dnew, evF_ssi, ex1_ex, ex1_nm, ex1_tp, ex1_par, ex1_ret, ex1_ret0, ex1_ite, ex1_sti, leD, ltD, geD, lenD, isD, isnD, isB, D.items, neD, eqD, eqB, one1, wipeR, ha, hc, hm, sizeLine_eq, -List.map_map])]
    have e : ((k : Int) + 1 + 1) = ((k + 1 : Nat) : Int) + 1 := by omega
    show R.ok (O.lst ((rngL 1 ((k : Int) + 1 + 1)).filterMap _)) _ = _
    rw [e, bcW_map]
    rfl
  have hne : rowsB (cst free sts most) (tabG (rowsB (cst free sts most)) k) (k + 1) ≠ [] := by
    intro e
    have := congrArg List.length e
    simp -dsimp [exs, ev, evs, evP, evC, evT, opn, op2, op1, peek, peeks, truX, truth, biD, cmpD, binD, bindT, bindTs, frzX, frzXs, O.toD, X1.sl, ix_tup, ix_lst, ix_rls, atI_0, atI_1, atI_2, atI_3, gtD, modD, fdivD, intD, addD, subD, mulD, Ev.finish, powD, isiD, D.tyn, isT, evF_lst, evF_cat, evF_rep, evF_sl, evF_bil, evF_bis, evF_bid, evF_rng, evF_dnew, evF_ssi, ex1_ex, ex1_nm, ex1_tp, ex1_par, ex1_ret, ex1_ret0, ex1_ite, ex1_sti, leD, ltD, geD, lenD, isD, isnD, isB, D.items, neD, eqD, eqB, rowsB] at this
  unfold turnF B_best_cuts_1
  simp -dsimp only [bindT]
  rw [if_pos (by simp -dsimp [exs, ev, evs, evP, evC, evT, opn, op2, op1, peek, peeks, truX, truth, biD, cmpD, binD, bindT, bindTs, frzX, frzXs, O.toD, X1.sl, ix_tup, ix_lst, ix_rls, atI_0, atI_1, atI_2, atI_3, gtD, modD, fdivD, intD, addD, subD, mulD, Ev.finish, powD, isiD, D.tyn, isT, evF_lst, evF_cat, evF_rep, evF_sl, evF_bil, evF_bis, evF_bid, evF_rng, evF_dnew, evF_ssi, ex1_ex, ex1_nm, ex1_tp, ex1_par, ex1_ret, ex1_ret0, ex1_ite, ex1_sti, leD, ltD, geD, lenD, isD, isnD, isB, D.items, neD, eqD, eqB])]
  show exs G _ [.v (.lst ((costs free sts most).map D.int)), n, .v (.int 1), .h 0, .v (.int ((k : Int) + 1)), .u] _ = _
  have hmn := min_prs hne
  have hl : ((tabG (rowsB (cst free sts most)) k).map prD).length < sizeLine := by rw [List.length_map, tabG_len, sizeLine_eq]; omega
  rw [exs_nx (ρ1 := [.v (.lst ((costs free sts most).map D.int)), n, .v (.int 1), .h 0, .v (.int ((k : Int) + 1)), .u]) (φ1 := [.lst ((tabG (rowsB (cst free sts most)) (k + 1)).map prD)]) (by
    rw [ex1_app (i := 3) (j := 0) rfl rfl]
    have e : (tabG (rowsB (cst free sts most)) (k + 1)).map prD = (tabG (rowsB (cst free sts most)) k).map prD ++ [prD ((mnP (rowsB (cst free sts most) (tabG (rowsB (cst free sts most)) k) (k + 1))).getD (0, 0))] := by
      show (tabG (rowsB (cst free sts most)) k ++ [_]).map prD = _
      rw [List.map_append]; rfl
    rw [e]
    simp -dsimp [exs, ev, evs, evP, evC, evT, opn, op2, op1, peek, peeks, truX, truth, biD, cmpD, binD, bindT, bindTs, frzX, frzXs, O.toD, X1.sl, ix_tup, ix_lst, ix_rls, atI_0, atI_1, atI_2, atI_3, gtD, modD, fdivD, intD, addD, subD, mulD, Ev.finish, powD, isiD, D.tyn, isT, evF_lst, evF_cat, evF_rep, evF_sl, evF_bil, evF_bis, evF_bid, evF_rng, evF_dnew, evF_ssi, ex1_ex, ex1_nm, ex1_tp, ex1_par, ex1_ret, ex1_ret0, ex1_ite, ex1_sti, leD, ltD, geD, lenD, isD, isnD, isB, D.items, neD, eqD, eqB, hC, hmn, hl, -List.map_map, -List.length_map])]
  rfl
theorem best_cuts_ok {free : Int} {sts : List (Int × Int)} {most : D} (h : Sc free sts most) {n : Nat} (hn : n ≤ 60) : F_best_cuts [.v (.lst ((costs free sts most).map D.int)), .v (.int n), .v (.int 1)] [] = .ok (.h 0) [.lst ((tabG (rowsB (cst free sts most)) n).map prD)] := by
  unfold F_best_cuts evFn il_best_cuts
  simp -dsimp only [List.length_cons, List.length_nil, Nat.reduceAdd, Nat.reduceLeDiff, and_self, if_true]
  rw [exs_nx (ρ1 := [.v (.lst ((costs free sts most).map D.int)), .v (.int n), .v (.int 1), .h 0, .u, .u]) (φ1 := [.lst ((tabG (rowsB (cst free sts most)) 0).map prD)]) (by simp -dsimp [exs, ev, evs, evP, evC, evT, opn, op2, op1, peek, peeks, truX, truth, biD, cmpD, binD, bindT, bindTs, frzX, frzXs, O.toD, X1.sl, ix_tup, ix_lst, ix_rls, atI_0, atI_1, atI_2, atI_3, gtD, modD, fdivD, intD, addD, subD, mulD, Ev.finish, powD, isiD, D.tyn, isT, evF_lst, evF_cat, evF_rep, evF_sl, evF_bil, evF_bis, evF_bid, evF_rng, evF_dnew, evF_ssi, ex1_ex, ex1_nm, ex1_tp, ex1_par, ex1_ret, ex1_ret0, ex1_ite, ex1_sti, leD, ltD, geD, lenD, isD, isnD, isB, D.items, neD, eqD, eqB, tabG, prD, sizeLine_eq])]
  have hI : evI [] (.rng2 (.con (.int 1)) (.bin .Add (.slot 1) (.con (.int 1)))) [.v (.lst ((costs free sts most).map D.int)), .v (.int n), .v (.int 1), .h 0, .u, .u] [.lst ((tabG (rowsB (cst free sts most)) 0).map prD)] = .ok ⟨rngL 1 ((n : Int) + 1), true, []⟩ [.lst ((tabG (rowsB (cst free sts most)) 0).map prD)] := evI_rng2 (by simp -dsimp [exs, ev, evs, evP, evC, evT, opn, op2, op1, peek, peeks, truX, truth, biD, cmpD, binD, bindT, bindTs, frzX, frzXs, O.toD, X1.sl, ix_tup, ix_lst, ix_rls, atI_0, atI_1, atI_2, atI_3, gtD, modD, fdivD, intD, addD, subD, mulD, Ev.finish, powD, isiD, D.tyn, isT, evF_lst, evF_cat, evF_rep, evF_sl, evF_bil, evF_bis, evF_bid, evF_rng, evF_dnew, evF_ssi, ex1_ex, ex1_nm, ex1_tp, ex1_par, ex1_ret, ex1_ret0, ex1_ite, ex1_sti, leD, ltD, geD, lenD, isD, isnD, isB, D.items, neD, eqD, eqB]) (by simp -dsimp [exs, ev, evs, evP, evC, evT, opn, op2, op1, peek, peeks, truX, truth, biD, cmpD, binD, bindT, bindTs, frzX, frzXs, O.toD, X1.sl, ix_tup, ix_lst, ix_rls, atI_0, atI_1, atI_2, atI_3, gtD, modD, fdivD, intD, addD, subD, mulD, Ev.finish, powD, isiD, D.tyn, isT, evF_lst, evF_cat, evF_rep, evF_sl, evF_bil, evF_bis, evF_bid, evF_rng, evF_dnew, evF_ssi, ex1_ex, ex1_nm, ex1_tp, ex1_par, ex1_ret, ex1_ret0, ex1_ite, ex1_sti, leD, ltD, geD, lenD, isD, isnD, isB, D.items, neD, eqD, eqB]) (by decide) (inRng_of (by omega) (by omega))
  obtain ⟨ρ', φ', e, s4, r1, r2⟩ := forL_inv (f := turnF [] (.nm 4) B_best_cuts_1) (fun j ρ φ => ∃ s4, ρ = [.v (.lst ((costs free sts most).map D.int)), .v (.int n), .v (.int 1), .h 0, s4, .u] ∧ φ = [.lst ((tabG (rowsB (cst free sts most)) j).map prD)]) (rngL 1 ((n : Int) + 1)) 0 [.v (.lst ((costs free sts most).map D.int)), .v (.int n), .v (.int 1), .h 0, .u, .u] [.lst ((tabG (rowsB (cst free sts most)) 0).map prD)] ⟨.u, rfl, rfl⟩ (by
    rintro j d ρ φ hj ⟨s4, r1, r2⟩
    obtain ⟨rfl, hj2⟩ := rngL_at hj
    rw [Nat.zero_add] at *
    subst r1 r2
    have e := bc_turn (G := []) h (k := j) (by omega) (n := .v (.int n)) (s4 := s4)
    rw [show (1 : Int) + j = (j : Int) + 1 by omega]
    exact ⟨_, _, e, _, rfl, rfl⟩)
  have hlen : 0 + (rngL 1 ((n : Int) + 1)).length = n := by rw [rngL_len]; omega
  rw [hlen] at r2
  subst r1 r2
  rw [exs_nx (ex1_for hI e)]
  simp -dsimp [exs, ev, evs, evP, evC, evT, opn, op2, op1, peek, peeks, truX, truth, biD, cmpD, binD, bindT, bindTs, frzX, frzXs, O.toD, X1.sl, ix_tup, ix_lst, ix_rls, atI_0, atI_1, atI_2, atI_3, gtD, modD, fdivD, intD, addD, subD, mulD, Ev.finish, powD, isiD, D.tyn, isT, evF_lst, evF_cat, evF_rep, evF_sl, evF_bil, evF_bis, evF_bid, evF_rng, evF_dnew, evF_ssi, ex1_ex, ex1_nm, ex1_tp, ex1_par, ex1_ret, ex1_ret0, ex1_ite, ex1_sti, leD, ltD, geD, lenD, isD, isnD, isB, D.items, neD, eqD, eqB, unlock, unlockL, -List.map_map]
theorem srt_len (r : List Int) : (srt r).length = r.length := (srt_perm r).length_eq
theorem tupl_ints {r : List Int} : tupleD [.lst (r.map D.int)] = some (.tup (r.map D.int)) := rfl
theorem sorted_ints (r : List Int) : sortedF [.lst (r.map D.int)] = some (.lst ((srt r).map D.int)) := by
  show (D.allInts (r.map D.int)).map _ = _
  rw [D.allInts_map]; rfl
theorem tc_head {F1 F2 : FSem} {T : List D} {sc cs nn one : D} (h1 : ∀ φ, callX F1 [.v cs, .v nn, .v one] φ = .ok (.h φ.length) (φ ++ [.lst T])) (h2 : ∀ φ, callX F2 [.v sc] φ = .ok (.v cs) φ) : ex1 [F1, F2] (.par [3, 4, 5] [(.call 0 [(.call 1 [(.slot 0)]), (.slot 1), (.slot 2)]), (.slot 1), (.new (.lst []))]) [.v sc, .v nn, .v one, .u, .u, .u] [] = .ok (.nx [.v sc, .v nn, .v one, .h 0, .v nn, .h 1]) [.lst T, .lst []] := by
  simp -dsimp [exs, ev, evs, evP, evC, evT, opn, op2, op1, peek, peeks, truX, truth, biD, cmpD, binD, bindT, bindTs, frzX, frzXs, O.toD, X1.sl, ix_tup, ix_lst, ix_rls, atI_0, atI_1, atI_2, atI_3, gtD, modD, fdivD, intD, addD, subD, mulD, Ev.finish, powD, isiD, D.tyn, isT, evF_lst, evF_cat, evF_rep, evF_sl, evF_bil, evF_bis, evF_bid, evF_rng, evF_dnew, evF_ssi, ex1_ex, ex1_nm, ex1_tp, ex1_par, ex1_ret, ex1_ret0, ex1_ite, ex1_sti, leD, ltD, geD, lenD, isD, isnD, isB, D.items, neD, eqD, eqB, h1, h2, sizeLine_eq]
theorem tc_tail {F1 F2 : FSem} {T R : List D} {sc s4 : D} {n b e : Int} {r : List D} (ha : L2.atI T n = some (.tup [.int b, .int e])) (hm : mulOk 1 b = true) (hs : sortedF [.lst R] = some (.lst r)) (ht : tupleD [.lst r] = some (.tup r)) : exs [F1, F2] [.ret (.tup [(.bin .Mult (.slot 2) (.ix (.ix (.slot 3) (.slot 1)) (.con (.int 0)))), (.bi .tuple [(.frz (.bi .sorted (.slot 5)))])])] [.v sc, .v (.int n), .v (.int 1), .h 0, .v s4, .h 1] [.lst T, .lst R] = .ok (.rt (.v (.tup [.int b, .tup r]))) [.lst T, .lst R] := by
  simp -dsimp [exs, ev, evs, evP, evC, evT, opn, op2, op1, peek, peeks, truX, truth, biD, cmpD, binD, bindT, bindTs, frzX, frzXs, O.toD, X1.sl, ix_tup, ix_lst, ix_rls, atI_0, atI_1, atI_2, atI_3, gtD, modD, fdivD, intD, addD, subD, mulD, Ev.finish, powD, isiD, D.tyn, isT, evF_lst, evF_cat, evF_rep, evF_sl, evF_bil, evF_bis, evF_bid, evF_rng, evF_dnew, evF_ssi, ex1_ex, ex1_nm, ex1_tp, ex1_par, ex1_ret, ex1_ret0, ex1_ite, ex1_sti, leD, ltD, geD, lenD, isD, isnD, isB, D.items, neD, eqD, eqB, ha, hm, hs, ht, sizeLine_eq]
theorem lc_body {F1 F2 F3 : FSem} {sc nn x : D} (h1 : ∀ φ, callX F3 [.v sc] φ = .ok (.v .non) φ) (h2 : ∀ φ, callX F2 [.v nn, .v (.int 1)] φ = .ok (.v .non) φ) (h3 : ∀ φ, callX F1 [.v sc, .v nn, .v (.int 1)] φ = .ok (.v x) φ) : evFn [F1, F2, F3] 2 2 il_least_cut [.v sc, .v nn] [] = .ok (.v x) [] := by
  unfold evFn il_least_cut
  simp -dsimp [exs, ev, evs, evP, evC, evT, opn, op2, op1, peek, peeks, truX, truth, biD, cmpD, binD, bindT, bindTs, frzX, frzXs, O.toD, X1.sl, ix_tup, ix_lst, ix_rls, atI_0, atI_1, atI_2, atI_3, gtD, modD, fdivD, intD, addD, subD, mulD, Ev.finish, powD, isiD, D.tyn, isT, evF_lst, evF_cat, evF_rep, evF_sl, evF_bil, evF_bis, evF_bid, evF_rng, evF_dnew, evF_ssi, ex1_ex, ex1_nm, ex1_tp, ex1_par, ex1_ret, ex1_ret0, ex1_ite, ex1_sti, leD, ltD, geD, lenD, isD, isnD, isB, D.items, neD, eqD, eqB, h1, h2, h3]
theorem told_cut_ok {free : Int} {sts : List (Int × Int)} {most : D} (h : Sc free sts most) {n : Nat} (hn : n ≤ 60) : ∃ r : List Int, F_told_cut [.v (scD free sts most), .v (.int n), .v (.int 1)] [] = .ok (.v (.tup [.int (B (cst free sts most) n), .tup (r.map D.int)])) [] := by
  have h1 : ∀ φ, callX F_best_cuts [.v (.lst ((costs free sts most).map D.int)), .v (.int n), .v (.int 1)] φ = .ok (.h φ.length) (φ ++ [.lst ((tabG (rowsB (cst free sts most)) n).map prD)]) := fun φ => callX_t3n (best_cuts_ok h hn)
  have h2 := costs_by_call h
  suffices key : ∃ (r : List Int) (ψ : List O), exs [F_best_cuts, F_costs_by] il_told_cut [.v (scD free sts most), .v (.int n), .v (.int 1), .u, .u, .u] [] = .ok (.rt (.v (.tup [.int (B (cst free sts most) n), .tup (r.map D.int)]))) ψ by
    obtain ⟨r, ψ, e⟩ := key
    exact ⟨r, evFn_v e ⟨rfl, by decide⟩ rfl⟩
  unfold il_told_cut
  rw [exs_nx (ρ1 := [.v (scD free sts most), .v (.int n), .v (.int 1), .h 0, .v (.int n), .h 1]) (φ1 := [.lst ((tabG (rowsB (cst free sts most)) n).map prD), .lst (([] : List Int).map D.int)]) (tc_head h1 h2)]
  obtain ⟨ρ', φ', e, left, r, e1, e2, e3, e4, e5⟩ := whl_inv (test := fun ρ1 φ1 => evT [F_best_cuts, F_costs_by] (.cmp .Gt (.slot 4) (.con (.int 0))) ρ1 φ1) (step := fun ρ1 φ1 => exs [F_best_cuts, F_costs_by] B_told_cut_1 ρ1 φ1)
    (fun k ρ φ => ∃ (left : Nat) (r : List Int), ρ = [.v (scD free sts most), .v (.int n), .v (.int 1), .h 0, .v (.int left), .h 1] ∧ φ = [.lst ((tabG (rowsB (cst free sts most)) n).map prD), .lst (r.map D.int)] ∧ left = k ∧ left ≤ n ∧ r.length + left ≤ n) (by
      rintro ρ φ ⟨left, r, rfl, rfl, e3, _, _⟩
      subst e3
      simp -dsimp [exs, ev, evs, evP, evC, evT, opn, op2, op1, peek, peeks, truX, truth, biD, cmpD, binD, bindT, bindTs, frzX, frzXs, O.toD, X1.sl, ix_tup, ix_lst, ix_rls, atI_0, atI_1, atI_2, atI_3, gtD, modD, fdivD, intD, addD, subD, mulD, Ev.finish, powD, isiD, D.tyn, isT, evF_lst, evF_cat, evF_rep, evF_sl, evF_bil, evF_bis, evF_bid, evF_rng, evF_dnew, evF_ssi, ex1_ex, ex1_nm, ex1_tp, ex1_par, ex1_ret, ex1_ret0, ex1_ite, ex1_sti, leD, ltD, geD, lenD, isD, isnD, isB, D.items, neD, eqD, eqB]) (by
      rintro k ρ φ ⟨left, r, rfl, rfl, e3, e4, e5⟩
      have hp : (0 : Int) < left := by omega
      have hp' : 0 < left := by omega
      obtain ⟨⟨j, j1, j2, ej⟩, _⟩ := B_rec (c := cst free sts most) (n := left) (by omega)
      refine ⟨by simp -dsimp [exs, ev, evs, evP, evC, evT, opn, op2, op1, peek, peeks, truX, truth, biD, cmpD, binD, bindT, bindTs, frzX, frzXs, O.toD, X1.sl, ix_tup, ix_lst, ix_rls, atI_0, atI_1, atI_2, atI_3, gtD, modD, fdivD, intD, addD, subD, mulD, Ev.finish, powD, isiD, D.tyn, isT, evF_lst, evF_cat, evF_rep, evF_sl, evF_bil, evF_bis, evF_bid, evF_rng, evF_dnew, evF_ssi, ex1_ex, ex1_nm, ex1_tp, ex1_par, ex1_ret, ex1_ret0, ex1_ite, ex1_sti, leD, ltD, geD, lenD, isD, isnD, isB, D.items, neD, eqD, eqB, hp'], left - j, [.v (scD free sts most), .v (.int n), .v (.int 1), .h 0, .v (.int ((left - j : Nat) : Int)), .h 1], [.lst ((tabG (rowsB (cst free sts most)) n).map prD), .lst ((r ++ [(j : Int)]).map D.int)], by omega, ?_, left - j, r ++ [(j : Int)], rfl, rfl, rfl, by omega, by simp -dsimp [exs, ev, evs, evP, evC, evT, opn, op2, op1, peek, peeks, truX, truth, biD, cmpD, binD, bindT, bindTs, frzX, frzXs, O.toD, X1.sl, ix_tup, ix_lst, ix_rls, atI_0, atI_1, atI_2, atI_3, gtD, modD, fdivD, intD, addD, subD, mulD, Ev.finish, powD, isiD, D.tyn, isT, evF_lst, evF_cat, evF_rep, evF_sl, evF_bil, evF_bis, evF_bid, evF_rng, evF_dnew, evF_ssi, ex1_ex, ex1_nm, ex1_tp, ex1_par, ex1_ret, ex1_ret0, ex1_ite, ex1_sti, leD, ltD, geD, lenD, isD, isnD, isB, D.items, neD, eqD, eqB]; omega⟩
      have ha : L2.atI ((tabG (rowsB (cst free sts most)) n).map prD) (left : Int) = some (.tup [.int (B (cst free sts most) left), .int j]) := by
        have e2 : (entG (rowsB (cst free sts most)) left).2 = j := by rw [ej]
        rw [at_prs (by omega) (by rw [tabG_len]; omega), Int.toNat_natCast, tabG_getD e4, e2]
      have hl : r.length < sizeLine := by rw [sizeLine_eq]; omega
      unfold B_told_cut_1
      rw [exs_nx (ρ1 := [.v (scD free sts most), .v (.int n), .v (.int 1), .h 0, .v (.int left), .h 1]) (φ1 := [.lst ((tabG (rowsB (cst free sts most)) n).map prD), .lst ((r ++ [(j : Int)]).map D.int)]) (by
        rw [ex1_app (i := 5) (j := 1) rfl rfl]
        simp -dsimp [exs, ev, evs, evP, evC, evT, opn, op2, op1, peek, peeks, truX, truth, biD, cmpD, binD, bindT, bindTs, frzX, frzXs, O.toD, X1.sl, ix_tup, ix_lst, ix_rls, atI_0, atI_1, atI_2, atI_3, gtD, modD, fdivD, intD, addD, subD, mulD, Ev.finish, powD, isiD, D.tyn, isT, evF_lst, evF_cat, evF_rep, evF_sl, evF_bil, evF_bis, evF_bid, evF_rng, evF_dnew, evF_ssi, ex1_ex, ex1_nm, ex1_tp, ex1_par, ex1_ret, ex1_ret0, ex1_ite, ex1_sti, leD, ltD, geD, lenD, isD, isnD, isB, D.items, neD, eqD, eqB, ha, hl, -List.map_map])]
      have es : (left : Int) - j = ((left - j : Nat) : Int) := by omega
      rw [exs_nx (ρ1 := [.v (scD free sts most), .v (.int n), .v (.int 1), .h 0, .v (.int ((left - j : Nat) : Int)), .h 1]) (φ1 := [.lst ((tabG (rowsB (cst free sts most)) n).map prD), .lst ((r ++ [(j : Int)]).map D.int)]) (by
        simp -dsimp [exs, ev, evs, evP, evC, evT, opn, op2, op1, peek, peeks, truX, truth, biD, cmpD, binD, bindT, bindTs, frzX, frzXs, O.toD, X1.sl, ix_tup, ix_lst, ix_rls, atI_0, atI_1, atI_2, atI_3, gtD, modD, fdivD, intD, addD, subD, mulD, Ev.finish, powD, isiD, D.tyn, isT, evF_lst, evF_cat, evF_rep, evF_sl, evF_bil, evF_bis, evF_bid, evF_rng, evF_dnew, evF_ssi, ex1_ex, ex1_nm, ex1_tp, ex1_par, ex1_ret, ex1_ret0, ex1_ite, ex1_sti, leD, ltD, geD, lenD, isD, isnD, isB, D.items, neD, eqD, eqB, ha, es, -List.map_map, -List.map_append])]
      rfl) 1000 n _ _ (by omega) ⟨n, [], rfl, rfl, rfl, Nat.le_refl _, by simp -dsimp [exs, ev, evs, evP, evC, evT, opn, op2, op1, peek, peeks, truX, truth, biD, cmpD, binD, bindT, bindTs, frzX, frzXs, O.toD, X1.sl, ix_tup, ix_lst, ix_rls, atI_0, atI_1, atI_2, atI_3, gtD, modD, fdivD, intD, addD, subD, mulD, Ev.finish, powD, isiD, D.tyn, isT, evF_lst, evF_cat, evF_rep, evF_sl, evF_bil, evF_bis, evF_bid, evF_rng, evF_dnew, evF_ssi, ex1_ex, ex1_nm, ex1_tp, ex1_par, ex1_ret, ex1_ret0, ex1_ite, ex1_sti, leD, ltD, geD, lenD, isD, isnD, isB, D.items, neD, eqD, eqB]⟩
  subst e1 e2
  rw [exs_nx (ex1_whl.trans e)]
  have ha : L2.atI ((tabG (rowsB (cst free sts most)) n).map prD) (n : Int) = some (.tup [.int (B (cst free sts most) n), .int (entG (rowsB (cst free sts most)) n).2]) := by
    rw [at_prs (by omega) (by rw [tabG_len]; omega), Int.toNat_natCast, tabG_getD (Nat.le_refl _)]
  have hm : mulOk 1 (B (cst free sts most) n) = true := mul_ok_l (by decide)
  exact ⟨srt r, _, tc_tail ha hm (sorted_ints r) tupl_ints⟩
theorem least_cut_call {free : Int} {sts : List (Int × Int)} {most : D} (h : Sc free sts most) {n : Nat} (h1 : 1 ≤ n) (hn : n ≤ 60) : ∃ r : List Int, ∀ φ, callX F_least_cut [.v (scD free sts most), .v (.int n)] φ = .ok (.v (.tup [.int (B (cst free sts most) n), .tup (r.map D.int)])) φ := by
  obtain ⟨r, e⟩ := told_cut_ok h hn
  refine ⟨r, fun φ => callX_a2 (ψ := []) ?_⟩
  have e' : ∀ φ, callX F_told_cut [.v (scD free sts most), .v (.int n), .v (.int 1)] φ = .ok (.v (.tup [.int (B (cst free sts most) n), .tup (r.map D.int)])) φ := fun φ => callX_a3 e
  have hd := check_days_call (i := n) (l := 1) (by omega) (by omega)
  have hs := check_scale_call h
  exact lc_body hs hd e'
end K38
namespace K38
open PySem Ev
theorem as_turn {F : FSem} {a b : Int} {s0 s : Sl} (h1 : ∀ φ, callX F [.v (.int a), .v (.int 1), .v (.int 400)] φ = .ok (.v (.bl true)) φ) (h2 : ∀ φ, callX F [.v (.int b), .v (.int 0), .v (.int 99999)] φ = .ok (.v (.bl true)) φ) : turnF [F] (.nm 1) B_are_sums_1 (.tup [.int a, .int b]) [s0, s, .u, .u] [] = .ok (.nx [s0, .v (.tup [.int a, .int b]), .u, .u]) [] := by
  simp -dsimp [exs, ev, evs, evP, evC, evT, opn, op2, op1, peek, peeks, truX, truth, biD, cmpD, binD, bindT, bindTs, frzX, frzXs, O.toD, X1.sl, ix_tup, ix_lst, ix_rls, atI_0, atI_1, atI_2, atI_3, gtD, modD, fdivD, intD, addD, subD, mulD, Ev.finish, powD, isiD, D.tyn, isT, evF_lst, evF_cat, evF_rep, evF_sl, evF_bil, evF_bis, evF_bid, evF_rng, evF_dnew, evF_ssi, ex1_ex, ex1_nm, ex1_tp, ex1_par, ex1_ret, ex1_ret0, ex1_ite, ex1_sti, leD, ltD, geD, lenD, isD, isnD, isB, D.items, neD, eqD, eqB, turnF, B_are_sums_1, h1, h2]
theorem as_elt {G : List FSem} {p q : Int × Int} {s0 s1 : Sl} {φ : List O} : one1 [2, 3] (.tp [(.nm 2), (.nm 3)]) (fun ρ1 φ2 => evC G none ρ1 φ2) (fun ρ1 φ2 => ev G (.cmp .Lt (.ix (.slot 2) (.con (.int 0))) (.ix (.slot 3) (.con (.int 0)))) ρ1 φ2) [s0, s1, .u, .u] (.wtp [prD p, prD q]) φ = .ok (some (.bl (decide (p.1 < q.1)))) φ := by
  simp -dsimp [exs, ev, evs, evP, evC, evT, opn, op2, op1, peek, peeks, truX, truth, biD, cmpD, binD, bindT, bindTs, frzX, frzXs, O.toD, X1.sl, ix_tup, ix_lst, ix_rls, atI_0, atI_1, atI_2, atI_3, gtD, modD, fdivD, intD, addD, subD, mulD, Ev.finish, powD, isiD, D.tyn, isT, evF_lst, evF_cat, evF_rep, evF_sl, evF_bil, evF_bis, evF_bid, evF_rng, evF_dnew, evF_ssi, ex1_ex, ex1_nm, ex1_tp, ex1_par, ex1_ret, ex1_ret0, ex1_ite, ex1_sti, leD, ltD, geD, lenD, isD, isnD, isB, D.items, neD, eqD, eqB, one1, wipeR, prD]
def ltP1 : D → Option D
  | .wtp [.tup [.int a, _], .tup [.int b, _]] => some (.bl (decide (a < b)))
  | _ => none
theorem adj_all : ∀ sm : Sm, (sm.map (·.1)).Pairwise (· < ·) → ∃ bs, D.allBls ((zipL (sm.map prD) (sm.map prD).tail).filterMap ltP1) = some bs ∧ bs.all id = true
  | [], _ => ⟨[], rfl, rfl⟩
  | [p], _ => ⟨[], rfl, rfl⟩
  | p :: q :: r, h => by
    obtain ⟨h1, h2⟩ := List.pairwise_cons.mp h
    obtain ⟨bs, e, hb⟩ := adj_all (q :: r) h2
    have hpq : p.1 < q.1 := h1 _ (by simp -dsimp [exs, ev, evs, evP, evC, evT, opn, op2, op1, peek, peeks, truX, truth, biD, cmpD, binD, bindT, bindTs, frzX, frzXs, O.toD, X1.sl, ix_tup, ix_lst, ix_rls, atI_0, atI_1, atI_2, atI_3, gtD, modD, fdivD, intD, addD, subD, mulD, Ev.finish, powD, isiD, D.tyn, isT, evF_lst, evF_cat, evF_rep, evF_sl, evF_bil, evF_bis, evF_bid, evF_rng, evF_dnew, evF_ssi, ex1_ex, ex1_nm, ex1_tp, ex1_par, ex1_ret, ex1_ret0, ex1_ite, ex1_sti, leD, ltD, geD, lenD, isD, isnD, isB, D.items, neD, eqD, eqB])
    refine ⟨decide (p.1 < q.1) :: bs, ?_, by simp -dsimp [exs, ev, evs, evP, evC, evT, opn, op2, op1, peek, peeks, truX, truth, biD, cmpD, binD, bindT, bindTs, frzX, frzXs, O.toD, X1.sl, ix_tup, ix_lst, ix_rls, atI_0, atI_1, atI_2, atI_3, gtD, modD, fdivD, intD, addD, subD, mulD, Ev.finish, powD, isiD, D.tyn, isT, evF_lst, evF_cat, evF_rep, evF_sl, evF_bil, evF_bis, evF_bid, evF_rng, evF_dnew, evF_ssi, ex1_ex, ex1_nm, ex1_tp, ex1_par, ex1_ret, ex1_ret0, ex1_ite, ex1_sti, leD, ltD, geD, lenD, isD, isnD, isB, D.items, neD, eqD, eqB, hpq, hb]⟩
    show D.allBls (.bl (decide (p.1 < q.1)) :: (zipL ((q :: r).map prD) ((q :: r).map prD).tail).filterMap ltP1) = _
    simp -dsimp only [D.allBls, e, Option.map_some]
theorem ev_zip1 {G : List FSem} {xs : List D} {s1 s2 s3 : Sl} {φ : List O} : evI G (.zip (.slot 0) (.sl (.slot 0) (some (.con (.int 1))) none)) [.v (.tup xs), s1, s2, s3] φ = .ok ⟨zipL xs xs.tail, true, []⟩ φ := by
  have h : slD (.tup xs) (some 1) none = some (.tup xs.tail) := by
    show some (D.tup (cut xs (some ((1 : Nat) : Int)) none)) = _
    rw [cut_fr, List.drop_one]
  simp -dsimp [exs, ev, evs, evP, evC, evT, opn, op2, op1, peek, peeks, truX, truth, biD, cmpD, binD, bindT, bindTs, frzX, frzXs, O.toD, X1.sl, ix_tup, ix_lst, ix_rls, atI_0, atI_1, atI_2, atI_3, gtD, modD, fdivD, intD, addD, subD, mulD, Ev.finish, powD, isiD, D.tyn, isT, evF_lst, evF_cat, evF_rep, evF_sl, evF_bil, evF_bis, evF_bid, evF_rng, evF_dnew, evF_ssi, ex1_ex, ex1_nm, ex1_tp, ex1_par, ex1_ret, ex1_ret0, ex1_ite, ex1_sti, leD, ltD, geD, lenD, isD, isnD, isB, D.items, neD, eqD, eqB, evI, h, walkX, D.seqs]
theorem as_body {F : FSem} {xs : List D} {s : Sl} {bs : List Bool} (hne : 0 < xs.length) (h30 : xs.length ≤ 30) (hL : forL (turnF [F] (.nm 1) B_are_sums_1) xs [.v (.tup xs), .u, .u, .u] [] = .ok (.nx [.v (.tup xs), s, .u, .u]) [])
    (hC : evF [F] C_are_sums_1 [.v (.tup xs), s, .u, .u] [] = .ok (.lst (bs.map D.bl)) []) (hb : bs.all id = true) : exs [F] il_are_sums [.v (.tup xs), .u, .u, .u] [] = .ok (.rt (.v (.bl true))) [] := by
  have a1 : (0 : Int) < xs.length := by omega
  have a2 : (xs.length : Int) ≤ 30 := by omega
  have a3 : xs.length ≤ sizeLine := by rw [sizeLine_eq]; omega
  unfold il_are_sums
  rw [exs_nx (ρ1 := [.v (.tup xs), .u, .u, .u]) (φ1 := []) (by simp -dsimp [exs, ev, evs, evP, evC, evT, opn, op2, op1, peek, peeks, truX, truth, biD, cmpD, binD, bindT, bindTs, frzX, frzXs, O.toD, X1.sl, ix_tup, ix_lst, ix_rls, atI_0, atI_1, atI_2, atI_3, gtD, modD, fdivD, intD, addD, subD, mulD, Ev.finish, powD, isiD, D.tyn, isT, evF_lst, evF_cat, evF_rep, evF_sl, evF_bil, evF_bis, evF_bid, evF_rng, evF_dnew, evF_ssi, ex1_ex, ex1_nm, ex1_tp, ex1_par, ex1_ret, ex1_ret0, ex1_ite, ex1_sti, leD, ltD, geD, lenD, isD, isnD, isB, D.items, neD, eqD, eqB, hne, h30, a1, a2, a3])]
  have hI : evI [F] (.seq (.slot 0)) [.v (.tup xs), .u, .u, .u] [] = .ok ⟨xs, false, []⟩ [] := by simp -dsimp [exs, ev, evs, evP, evC, evT, opn, op2, op1, peek, peeks, truX, truth, biD, cmpD, binD, bindT, bindTs, frzX, frzXs, O.toD, X1.sl, ix_tup, ix_lst, ix_rls, atI_0, atI_1, atI_2, atI_3, gtD, modD, fdivD, intD, addD, subD, mulD, Ev.finish, powD, isiD, D.tyn, isT, evF_lst, evF_cat, evF_rep, evF_sl, evF_bil, evF_bis, evF_bid, evF_rng, evF_dnew, evF_ssi, ex1_ex, ex1_nm, ex1_tp, ex1_par, ex1_ret, ex1_ret0, ex1_ite, ex1_sti, leD, ltD, geD, lenD, isD, isnD, isB, D.items, neD, eqD, eqB, evI, walkX, D.seqs]
  rw [exs_nx (ex1_for hI hL)]
  have hall : allD [.lst (bs.map D.bl)] = some (.bl true) := by
    have : D.allBls (bs.map D.bl) = some bs := by
      clear hC hb
      induction bs with
      | nil => rfl
      | cons b bs ih => simp -dsimp only [List.map_cons, D.allBls, ih, Option.map_some]
    show (D.allBls (bs.map D.bl)).map _ = _
    rw [this, Option.map_some, hb]
  show exs [F] _ _ [] = _
  simp -dsimp [exs, ev, evs, evP, evC, evT, opn, op2, op1, peek, peeks, truX, truth, biD, cmpD, binD, bindT, bindTs, frzX, frzXs, O.toD, X1.sl, ix_tup, ix_lst, ix_rls, atI_0, atI_1, atI_2, atI_3, gtD, modD, fdivD, intD, addD, subD, mulD, Ev.finish, powD, isiD, D.tyn, isT, evF_lst, evF_cat, evF_rep, evF_sl, evF_bil, evF_bis, evF_bid, evF_rng, evF_dnew, evF_ssi, ex1_ex, ex1_nm, ex1_tp, ex1_par, ex1_ret, ex1_ret0, ex1_ite, ex1_sti, leD, ltD, geD, lenD, isD, isnD, isB, D.items, neD, eqD, eqB, hC, hall]
theorem check_sums_call {sm : Sm} (h : VSm sm) (φ : List O) : callX F_check_sums [.v (.tup (sm.map prD))] φ = .ok (.v .non) φ := by
  have hL : ∃ s, forL (turnF [F_is_between] (.nm 1) B_are_sums_1) (sm.map prD) [.v (.tup (sm.map prD)), .u, .u, .u] [] = .ok (.nx [.v (.tup (sm.map prD)), s, .u, .u]) [] := by
    obtain ⟨hA, _⟩ := forL_chk (f := turnF [F_is_between] (.nm 1) B_are_sums_1) (p := fun _ => true) (x := .v (.bl false)) (I := fun ρ => ∃ s, ρ = [.v (.tup (sm.map prD)), s, .u, .u]) (φ := []) (sm.map prD) (by
      rintro d hd ρ ⟨s, rfl⟩
      obtain ⟨p, hp, rfl⟩ := List.mem_map.mp hd
      have hb := h.bd p hp
      have b1 : btw (.int p.1) 1 400 = true := by simp -dsimp [exs, ev, evs, evP, evC, evT, opn, op2, op1, peek, peeks, truX, truth, biD, cmpD, binD, bindT, bindTs, frzX, frzXs, O.toD, X1.sl, ix_tup, ix_lst, ix_rls, atI_0, atI_1, atI_2, atI_3, gtD, modD, fdivD, intD, addD, subD, mulD, Ev.finish, powD, isiD, D.tyn, isT, evF_lst, evF_cat, evF_rep, evF_sl, evF_bil, evF_bis, evF_bid, evF_rng, evF_dnew, evF_ssi, ex1_ex, ex1_nm, ex1_tp, ex1_par, ex1_ret, ex1_ret0, ex1_ite, ex1_sti, leD, ltD, geD, lenD, isD, isnD, isB, D.items, neD, eqD, eqB, btw]; omega
      have b2 : btw (.int p.2) 0 99999 = true := by simp -dsimp [exs, ev, evs, evP, evC, evT, opn, op2, op1, peek, peeks, truX, truth, biD, cmpD, binD, bindT, bindTs, frzX, frzXs, O.toD, X1.sl, ix_tup, ix_lst, ix_rls, atI_0, atI_1, atI_2, atI_3, gtD, modD, fdivD, intD, addD, subD, mulD, Ev.finish, powD, isiD, D.tyn, isT, evF_lst, evF_cat, evF_rep, evF_sl, evF_bil, evF_bis, evF_bid, evF_rng, evF_dnew, evF_ssi, ex1_ex, ex1_nm, ex1_tp, ex1_par, ex1_ret, ex1_ret0, ex1_ite, ex1_sti, leD, ltD, geD, lenD, isD, isnD, isB, D.items, neD, eqD, eqB, btw]; omega
      refine ⟨fun _ => ⟨_, as_turn (fun φ => ?_) (fun φ => ?_), _, rfl⟩, fun h => by cases h⟩
      · rw [is_between_call (.int _), b1]
      · rw [is_between_call (.int _), b2]) _ ⟨.u, rfl⟩
    obtain ⟨ρ', e, s, rfl⟩ := hA (by simp -dsimp [exs, ev, evs, evP, evC, evT, opn, op2, op1, peek, peeks, truX, truth, biD, cmpD, binD, bindT, bindTs, frzX, frzXs, O.toD, X1.sl, ix_tup, ix_lst, ix_rls, atI_0, atI_1, atI_2, atI_3, gtD, modD, fdivD, intD, addD, subD, mulD, Ev.finish, powD, isiD, D.tyn, isT, evF_lst, evF_cat, evF_rep, evF_sl, evF_bil, evF_bis, evF_bid, evF_rng, evF_dnew, evF_ssi, ex1_ex, ex1_nm, ex1_tp, ex1_par, ex1_ret, ex1_ret0, ex1_ite, ex1_sti, leD, ltD, geD, lenD, isD, isnD, isB, D.items, neD, eqD, eqB])
    exact ⟨s, e⟩
  obtain ⟨s, hL⟩ := hL
  obtain ⟨bs, hbs, hb⟩ := adj_all sm h.adj
  have hlen : (sm.map prD).length = sm.length := List.length_map _
  have hC : evF [F_is_between] C_are_sums_1 [.v (.tup (sm.map prD)), s, .u, .u] [] = .ok (.lst (bs.map D.bl)) [] := by
    unfold C_are_sums_1
    rw [evF_comp2 ev_zip1 (g := ltP1) (by have := zipL_len (sm.map prD) (sm.map prD).tail; have := h.len; rw [sizeLine_eq]; simp -dsimp only [List.length_tail] at *; omega) (by
      intro d hd
      obtain ⟨u, v, rfl, hu, hv⟩ := zipL_mem hd
      obtain ⟨p, _, rfl⟩ := List.mem_map.mp hu
      obtain ⟨q, _, rfl⟩ := List.mem_map.mp (List.mem_of_mem_tail hv)
      exact as_elt)]
    have : ∀ (ds : List D) (bs : List Bool), D.allBls ds = some bs → ds = bs.map D.bl := by
      intro ds
      induction ds with
      | nil => intro bs e; cases e; rfl
      | cons d ds ih =>
        intro bs e
        cases d with
        | bl b =>
          simp -dsimp only [D.allBls] at e
          cases q : D.allBls ds with
          | none => rw [q] at e; cases e
          | some cs =>
            rw [q] at e; cases e
            rw [ih cs q]; rfl
        | _ => cases e
    show R.ok (O.lst ((zipL (sm.map prD) (sm.map prD).tail).filterMap ltP1)) _ = _
    rw [this _ _ hbs]
    rfl
  have hne : 0 < (sm.map prD).length := by rw [hlen]; exact List.length_pos_iff.mpr h.ne
  have e1 : F_are_sums [.v (.tup (sm.map prD))] [] = .ok (.v (.bl true)) [] := evFn_v (as_body hne (by rw [hlen]; exact h.len) hL hC hb) ⟨rfl, by decide⟩ rfl
  have e2 : ∀ φ, callX F_are_sums [.v (.tup (sm.map prD))] φ = .ok (.v (.bl true)) φ := fun φ => callX_a1 e1
  have lem : ∀ {F : FSem} {x : D}, (∀ φ, callX F [.v x] φ = .ok (.v (.bl true)) φ) → evFn [F] 1 1 il_check_sums [.v x] [] = .ok (.v .non) [] := by
    intro F x hF
    unfold evFn il_check_sums
    simp -dsimp [exs, ev, evs, evP, evC, evT, opn, op2, op1, peek, peeks, truX, truth, biD, cmpD, binD, bindT, bindTs, frzX, frzXs, O.toD, X1.sl, ix_tup, ix_lst, ix_rls, atI_0, atI_1, atI_2, atI_3, gtD, modD, fdivD, intD, addD, subD, mulD, Ev.finish, powD, isiD, D.tyn, isT, evF_lst, evF_cat, evF_rep, evF_sl, evF_bil, evF_bis, evF_bid, evF_rng, evF_dnew, evF_ssi, ex1_ex, ex1_nm, ex1_tp, ex1_par, ex1_ret, ex1_ret0, ex1_ite, ex1_sti, leD, ltD, geD, lenD, isD, isnD, isB, D.items, neD, eqD, eqB, hF]
  exact callX_a1 (lem e2)
/-! ### below -/
theorem bl_head {F1 F2 F3 : FSem} {T : List D} {su nn : D} (h1 : ∀ φ, callX F1 [.v su, .v nn] φ = .ok (.h φ.length) (φ ++ [.lst T])) : ex1 [F1, F2, F3] (.par [2, 3, 4] [(.call 0 [(.slot 0), (.slot 1)]), (.slot 1), (.new (.lst []))]) [.v su, .v nn, .u, .u, .u] [] = .ok (.nx [.v su, .v nn, .h 0, .v nn, .h 1]) [.lst T, .lst []] := by
  simp -dsimp [exs, ev, evs, evP, evC, evT, opn, op2, op1, peek, peeks, truX, truth, biD, cmpD, binD, bindT, bindTs, frzX, frzXs, O.toD, X1.sl, ix_tup, ix_lst, ix_rls, atI_0, atI_1, atI_2, atI_3, gtD, modD, fdivD, intD, addD, subD, mulD, Ev.finish, powD, isiD, D.tyn, isT, evF_lst, evF_cat, evF_rep, evF_sl, evF_bil, evF_bis, evF_bid, evF_rng, evF_dnew, evF_ssi, ex1_ex, ex1_nm, ex1_tp, ex1_par, ex1_ret, ex1_ret0, ex1_ite, ex1_sti, leD, ltD, geD, lenD, isD, isnD, isB, D.items, neD, eqD, eqB, h1, sizeLine_eq]
theorem bl_c1 {F1 F2 F3 : FSem} {su nn : D} (h1 : ∀ φ, callX F3 [.v su] φ = .ok (.v .non) φ) : ex1 [F1, F2, F3] (.ex (.call 2 [(.slot 0)])) [.v su, .v nn, .u, .u, .u] [] = .ok (.nx [.v su, .v nn, .u, .u, .u]) [] := by
  simp -dsimp [exs, ev, evs, evP, evC, evT, opn, op2, op1, peek, peeks, truX, truth, biD, cmpD, binD, bindT, bindTs, frzX, frzXs, O.toD, X1.sl, ix_tup, ix_lst, ix_rls, atI_0, atI_1, atI_2, atI_3, gtD, modD, fdivD, intD, addD, subD, mulD, Ev.finish, powD, isiD, D.tyn, isT, evF_lst, evF_cat, evF_rep, evF_sl, evF_bil, evF_bis, evF_bid, evF_rng, evF_dnew, evF_ssi, ex1_ex, ex1_nm, ex1_tp, ex1_par, ex1_ret, ex1_ret0, ex1_ite, ex1_sti, leD, ltD, geD, lenD, isD, isnD, isB, D.items, neD, eqD, eqB, h1]
theorem bl_c2 {F1 F2 F3 : FSem} {su nn : D} (h1 : ∀ φ, callX F2 [.v nn, .v (.int 0)] φ = .ok (.v .non) φ) : ex1 [F1, F2, F3] (.ex (.call 1 [(.slot 1), (.con (.int 0))])) [.v su, .v nn, .u, .u, .u] [] = .ok (.nx [.v su, .v nn, .u, .u, .u]) [] := by
  simp -dsimp [exs, ev, evs, evP, evC, evT, opn, op2, op1, peek, peeks, truX, truth, biD, cmpD, binD, bindT, bindTs, frzX, frzXs, O.toD, X1.sl, ix_tup, ix_lst, ix_rls, atI_0, atI_1, atI_2, atI_3, gtD, modD, fdivD, intD, addD, subD, mulD, Ev.finish, powD, isiD, D.tyn, isT, evF_lst, evF_cat, evF_rep, evF_sl, evF_bil, evF_bis, evF_bid, evF_rng, evF_dnew, evF_ssi, ex1_ex, ex1_nm, ex1_tp, ex1_par, ex1_ret, ex1_ret0, ex1_ite, ex1_sti, leD, ltD, geD, lenD, isD, isnD, isB, D.items, neD, eqD, eqB, h1]
theorem bl_step {F1 F2 F3 : FSem} {S T R : List D} {nn : D} {l b i o c : Int} (ha : L2.atI T l = some (.tup [.int b, .int i])) (hs : L2.atI S i = some (.tup [.int o, .int c])) (hR : R.length < sizeLine) : exs [F1, F2, F3] B_below_1 [.v (.tup S), .v nn, .h 0, .v (.int l), .h 1] [.lst T, .lst R] = .ok (.nx [.v (.tup S), .v nn, .h 0, .v (.int (l - o)), .h 1]) [.lst T, .lst (R ++ [.int i])] := by
  have hl : L2.atI (R ++ [D.int i]) (-1) = some (.int i) := by rw [atI_last]; simp -dsimp [exs, ev, evs, evP, evC, evT, opn, op2, op1, peek, peeks, truX, truth, biD, cmpD, binD, bindT, bindTs, frzX, frzXs, O.toD, X1.sl, ix_tup, ix_lst, ix_rls, atI_0, atI_1, atI_2, atI_3, gtD, modD, fdivD, intD, addD, subD, mulD, Ev.finish, powD, isiD, D.tyn, isT, evF_lst, evF_cat, evF_rep, evF_sl, evF_bil, evF_bis, evF_bid, evF_rng, evF_dnew, evF_ssi, ex1_ex, ex1_nm, ex1_tp, ex1_par, ex1_ret, ex1_ret0, ex1_ite, ex1_sti, leD, ltD, geD, lenD, isD, isnD, isB, D.items, neD, eqD, eqB]
  unfold B_below_1
  rw [exs_nx (ρ1 := [.v (.tup S), .v nn, .h 0, .v (.int l), .h 1]) (φ1 := [.lst T, .lst (R ++ [.int i])]) (by
    rw [ex1_app (i := 4) (j := 1) rfl rfl]
    simp -dsimp [exs, ev, evs, evP, evC, evT, opn, op2, op1, peek, peeks, truX, truth, biD, cmpD, binD, bindT, bindTs, frzX, frzXs, O.toD, X1.sl, ix_tup, ix_lst, ix_rls, atI_0, atI_1, atI_2, atI_3, gtD, modD, fdivD, intD, addD, subD, mulD, Ev.finish, powD, isiD, D.tyn, isT, evF_lst, evF_cat, evF_rep, evF_sl, evF_bil, evF_bis, evF_bid, evF_rng, evF_dnew, evF_ssi, ex1_ex, ex1_nm, ex1_tp, ex1_par, ex1_ret, ex1_ret0, ex1_ite, ex1_sti, leD, ltD, geD, lenD, isD, isnD, isB, D.items, neD, eqD, eqB, ha, hR])]
  rw [exs_nx (ρ1 := [.v (.tup S), .v nn, .h 0, .v (.int (l - o)), .h 1]) (φ1 := [.lst T, .lst (R ++ [.int i])]) (by
    have hn : negD (.int 1) = some (.int (-1)) := rfl
    simp -dsimp [exs, ev, evs, evP, evC, evT, opn, op2, op1, peek, peeks, truX, truth, biD, cmpD, binD, bindT, bindTs, frzX, frzXs, O.toD, X1.sl, ix_tup, ix_lst, ix_rls, atI_0, atI_1, atI_2, atI_3, gtD, modD, fdivD, intD, addD, subD, mulD, Ev.finish, powD, isiD, D.tyn, isT, evF_lst, evF_cat, evF_rep, evF_sl, evF_bil, evF_bis, evF_bid, evF_rng, evF_dnew, evF_ssi, ex1_ex, ex1_nm, ex1_tp, ex1_par, ex1_ret, ex1_ret0, ex1_ite, ex1_sti, leD, ltD, geD, lenD, isD, isnD, isB, D.items, neD, eqD, eqB, ha, hs, hl, hn])]
  rfl
theorem bl_tail {F1 F2 F3 : FSem} {T R : List D} {su s3 : D} {n b e : Int} {r : List D} (ha : L2.atI T n = some (.tup [.int b, .int e])) (hs : sortedF [.lst R] = some (.lst r)) (ht : tupleD [.lst r] = some (.tup r)) : exs [F1, F2, F3] [.ret (.tup [(.ix (.ix (.slot 2) (.slot 1)) (.con (.int 0))), (.bi .tuple [(.frz (.bi .sorted (.slot 4)))])])] [.v su, .v (.int n), .h 0, .v s3, .h 1] [.lst T, .lst R] = .ok (.rt (.v (.tup [.int b, .tup r]))) [.lst T, .lst R] := by
  simp -dsimp [exs, ev, evs, evP, evC, evT, opn, op2, op1, peek, peeks, truX, truth, biD, cmpD, binD, bindT, bindTs, frzX, frzXs, O.toD, X1.sl, ix_tup, ix_lst, ix_rls, atI_0, atI_1, atI_2, atI_3, gtD, modD, fdivD, intD, addD, subD, mulD, Ev.finish, powD, isiD, D.tyn, isT, evF_lst, evF_cat, evF_rep, evF_sl, evF_bil, evF_bis, evF_bid, evF_rng, evF_dnew, evF_ssi, ex1_ex, ex1_nm, ex1_tp, ex1_par, ex1_ret, ex1_ret0, ex1_ite, ex1_sti, leD, ltD, geD, lenD, isD, isnD, isB, D.items, neD, eqD, eqB, ha, hs, ht, sizeLine_eq]
theorem bl_test {G : List FSem} {s0 s1 s2 s4 : Sl} {l : Int} {φ : List O} : evT G (.cmp .Gt (.slot 3) (.con (.int 0))) [s0, s1, s2, .v (.int l), s4] φ = .ok (decide (0 < l)) φ := by
  simp -dsimp [exs, ev, evs, evP, evC, evT, opn, op2, op1, peek, peeks, truX, truth, biD, cmpD, binD, bindT, bindTs, frzX, frzXs, O.toD, X1.sl, ix_tup, ix_lst, ix_rls, atI_0, atI_1, atI_2, atI_3, gtD, modD, fdivD, intD, addD, subD, mulD, Ev.finish, powD, isiD, D.tyn, isT, evF_lst, evF_cat, evF_rep, evF_sl, evF_bil, evF_bis, evF_bid, evF_rng, evF_dnew, evF_ssi, ex1_ex, ex1_nm, ex1_tp, ex1_par, ex1_ret, ex1_ret0, ex1_ite, ex1_sti, leD, ltD, geD, lenD, isD, isnD, isB, D.items, neD, eqD, eqB]
theorem below_call {sm : Sm} (h : VSm sm) {n : Nat} (hn : n ≤ 60) : ∃ r : List Int, (∀ φ, callX F_below [.v (.tup (sm.map prD)), .v (.int n)] φ = .ok (.v (.tup [.int (L sm n), .tup ((srt r).map D.int)])) φ) ∧ (∀ a ∈ r, 0 ≤ a ∧ a < sm.length) ∧ cstS sm r = L sm n ∧ n ≤ ownS sm r ∧ r.length ≤ n := by
  have h1 : ∀ φ, callX F_least_rows [.v (.tup (sm.map prD)), .v (.int n)] φ = .ok (.h φ.length) (φ ++ [.lst ((tabG (rowsI sm) n).map prD)]) := fun φ => callX_t2n (least_rows_ok h hn)
  have h2 := check_sums_call h
  have h3 := check_days_call (i := n) (l := 0) (by omega) (by omega)
  suffices key : ∃ (r : List Int) (ψ : List O), exs [F_least_rows, F_check_days, F_check_sums] il_below [.v (.tup (sm.map prD)), .v (.int n), .u, .u, .u] [] = .ok (.rt (.v (.tup [.int (L sm n), .tup ((srt r).map D.int)]))) ψ ∧ (∀ a ∈ r, 0 ≤ a ∧ a < sm.length) ∧ cstS sm r = L sm n ∧ n ≤ ownS sm r ∧ r.length ≤ n by
    obtain ⟨r, ψ, e, q⟩ := key
    exact ⟨r, fun φ => callX_a2 (evFn_v e ⟨rfl, by decide⟩ rfl), q⟩
  unfold il_below
  rw [exs_nx (bl_c1 h2), exs_nx (bl_c2 h3), exs_nx (bl_head h1)]
  obtain ⟨ρ', φ', e, left, r, e1, e2, e3, e4, e5, e6, e7, e8⟩ := whl_inv (test := fun ρ1 φ1 => evT [F_least_rows, F_check_days, F_check_sums] (.cmp .Gt (.slot 3) (.con (.int 0))) ρ1 φ1) (step := fun ρ1 φ1 => exs [F_least_rows, F_check_days, F_check_sums] B_below_1 ρ1 φ1)
    (fun k ρ φ => ∃ (left : Int) (r : List Int), ρ = [.v (.tup (sm.map prD)), .v (.int n), .h 0, .v (.int left), .h 1] ∧ φ = [.lst ((tabG (rowsI sm) n).map prD), .lst (r.map D.int)] ∧ left.toNat = k ∧ left ≤ n ∧ (∀ a ∈ r, 0 ≤ a ∧ a < sm.length) ∧ cstS sm r + L sm left.toNat = L sm n ∧ ownS sm r + left = n ∧ r.length + left.toNat ≤ n) (by
      rintro ρ φ ⟨left, r, rfl, rfl, e3, _⟩
      rw [bl_test]
      have : decide (0 < left) = false := by rw [decide_eq_false_iff_not]; omega
      rw [this]) (by
      rintro k ρ φ ⟨left, r, rfl, rfl, e3, e4, e5, e6, e7, e8⟩
      have hp : (0 : Int) < left := by omega
      obtain ⟨i, p, hi, ei, _⟩ := ent_rec h (n := left.toNat) (by omega)
      have hb := h.bd p (List.mem_of_getElem? hi)
      have hil : i < sm.length := (List.getElem?_eq_some_iff.mp hi).1
      have eL : L sm left.toNat = L sm ((left.toNat : Int) - p.1).toNat + p.2 := by
        show (entG (rowsI sm) left.toNat).1 = _
        rw [ei]
      have ez : ((left.toNat : Int) - p.1).toNat = (left - p.1).toNat := by omega
      have hgd : sm.getD ((i : Int)).toNat (0, 0) = p := by
        rw [Int.toNat_natCast, List.getD_eq_getElem?_getD, hi]; rfl
      have ha : L2.atI ((tabG (rowsI sm) n).map prD) left = some (.tup [.int (L sm left.toNat), .int i]) := by
        have e2 : (entG (rowsI sm) left.toNat).2 = (i : Int) := by rw [ei]
        rw [at_prs (by omega) (by rw [tabG_len]; omega), tabG_getD (by omega), e2]
      have hs : L2.atI (sm.map prD) (i : Int) = some (.tup [.int p.1, .int p.2]) := by
        rw [at_prs (by omega) (by omega), hgd]
      have hR : (r.map D.int).length < sizeLine := by rw [List.length_map, sizeLine_eq]; omega
      have step := bl_step (F1 := F_least_rows) (F2 := F_check_days) (F3 := F_check_sums) (nn := .int n) ha hs hR
      refine ⟨?_, (left - p.1).toNat, _, _, by omega, step, left - p.1, r ++ [(i : Int)], rfl, by rw [List.map_append]; rfl, rfl, by omega, ?_, ?_, ?_, ?_⟩
      · rw [bl_test, decide_eq_true hp]
      · intro a hm
        rcases List.mem_append.mp hm with hm | hm
        · exact e5 a hm
        · rw [List.mem_singleton] at hm; subst hm; omega
      · have : cstS sm (r ++ [(i : Int)]) = cstS sm r + p.2 := by
          unfold cstS
          rw [sum_snoc, hgd]
        rw [this]
        rw [ez] at eL
        omega
      · have : ownS sm (r ++ [(i : Int)]) = ownS sm r + p.1 := by
          unfold ownS
          rw [sum_snoc, hgd]
        rw [this]; omega
      · rw [List.length_append, List.length_singleton]; omega) 1000 n _ _ (by omega) ⟨n, [], rfl, rfl, by omega, by omega, (fun _ h => nomatch h), by simp -dsimp [exs, ev, evs, evP, evC, evT, opn, op2, op1, peek, peeks, truX, truth, biD, cmpD, binD, bindT, bindTs, frzX, frzXs, O.toD, X1.sl, ix_tup, ix_lst, ix_rls, atI_0, atI_1, atI_2, atI_3, gtD, modD, fdivD, intD, addD, subD, mulD, Ev.finish, powD, isiD, D.tyn, isT, evF_lst, evF_cat, evF_rep, evF_sl, evF_bil, evF_bis, evF_bid, evF_rng, evF_dnew, evF_ssi, ex1_ex, ex1_nm, ex1_tp, ex1_par, ex1_ret, ex1_ret0, ex1_ite, ex1_sti, leD, ltD, geD, lenD, isD, isnD, isB, D.items, neD, eqD, eqB, cstS], by simp -dsimp [exs, ev, evs, evP, evC, evT, opn, op2, op1, peek, peeks, truX, truth, biD, cmpD, binD, bindT, bindTs, frzX, frzXs, O.toD, X1.sl, ix_tup, ix_lst, ix_rls, atI_0, atI_1, atI_2, atI_3, gtD, modD, fdivD, intD, addD, subD, mulD, Ev.finish, powD, isiD, D.tyn, isT, evF_lst, evF_cat, evF_rep, evF_sl, evF_bil, evF_bis, evF_bid, evF_rng, evF_dnew, evF_ssi, ex1_ex, ex1_nm, ex1_tp, ex1_par, ex1_ret, ex1_ret0, ex1_ite, ex1_sti, leD, ltD, geD, lenD, isD, isnD, isB, D.items, neD, eqD, eqB, ownS], by simp -dsimp [exs, ev, evs, evP, evC, evT, opn, op2, op1, peek, peeks, truX, truth, biD, cmpD, binD, bindT, bindTs, frzX, frzXs, O.toD, X1.sl, ix_tup, ix_lst, ix_rls, atI_0, atI_1, atI_2, atI_3, gtD, modD, fdivD, intD, addD, subD, mulD, Ev.finish, powD, isiD, D.tyn, isT, evF_lst, evF_cat, evF_rep, evF_sl, evF_bil, evF_bis, evF_bid, evF_rng, evF_dnew, evF_ssi, ex1_ex, ex1_nm, ex1_tp, ex1_par, ex1_ret, ex1_ret0, ex1_ite, ex1_sti, leD, ltD, geD, lenD, isD, isnD, isB, D.items, neD, eqD, eqB]⟩
  subst e1 e2
  rw [List.map_nil] at e
  rw [exs_nx (ex1_whl.trans e)]
  have ha : L2.atI ((tabG (rowsI sm) n).map prD) (n : Int) = some (.tup [.int (L sm n), .int (entG (rowsI sm) n).2]) := by
    rw [at_prs (by omega) (by rw [tabG_len]; omega), Int.toNat_natCast, tabG_getD (Nat.le_refl _)]
  refine ⟨r, _, bl_tail ha (sorted_ints r) tupl_ints, e5, ?_, by omega, by omega⟩
  rw [e3, L_0] at e6
  omega
end K38
namespace K38
open PySem Ev
theorem ls_turn {b : Nat} {o : O} {ds : List D} {day wide lap : Int} {s : Sl} (h : PotB (b + 4) o) (hw : 0 < wide) (hw2 : wide ≤ 120) (hd : ds.length < 100) : ∃ (e c : Int) (o' : O), turnF [F_law_take, F_law_of] (.nm 2) B_law_sums_1 (.int lap) [.h 0, .v (.int wide), s, .v (.int day), .h 1] [o, .lst ds] = .ok (.nx [.h 0, .v (.int wide), .v (.int lap), .v (.int (day + 1 + e)), .h 1]) [o', .lst (ds ++ [.tup [.int (day + 1 + e), .int c]])] ∧ 0 ≤ e ∧ e < wide ∧ 0 ≤ c ∧ c < 60 ∧ PotB b o' := by
  obtain ⟨r0, o0, e0, a0, b0, h0⟩ := take_call (φ := [o, .lst ds]) (j := 0) (u := wide) rfl h hw (by omega)
  obtain ⟨r1, o1, e1, a1, b1, h1⟩ := take_call (φ := [o0, .lst ds]) (j := 0) (u := 9) rfl h0 (by decide) (by decide)
  obtain ⟨r2, o2, e2, a2, b2, h2⟩ := take_call (φ := [o1, .lst ds]) (j := 0) (u := 60) rfl h1 (by decide) (by decide)
  obtain ⟨d, hdm, o3, e3, h3⟩ := of_call (φ := [o2, .lst ds]) (j := 0) (xs := [.int 0, .int r1, .int r2]) rfl h2 (by simp -dsimp [exs, ev, evs, evP, evC, evT, opn, op2, op1, peek, peeks, truX, truth, biD, cmpD, binD, bindT, bindTs, frzX, frzXs, O.toD, X1.sl, ix_tup, ix_lst, ix_rls, atI_0, atI_1, atI_2, atI_3, gtD, modD, fdivD, intD, addD, subD, mulD, Ev.finish, powD, isiD, D.tyn, isT, evF_lst, evF_cat, evF_rep, evF_sl, evF_bil, evF_bis, evF_bid, evF_rng, evF_dnew, evF_ssi, ex1_ex, ex1_nm, ex1_tp, ex1_par, ex1_ret, ex1_ret0, ex1_ite, ex1_sti, leD, ltD, geD, lenD, isD, isnD, isB, D.items, neD, eqD, eqB]) (by simp -dsimp [exs, ev, evs, evP, evC, evT, opn, op2, op1, peek, peeks, truX, truth, biD, cmpD, binD, bindT, bindTs, frzX, frzXs, O.toD, X1.sl, ix_tup, ix_lst, ix_rls, atI_0, atI_1, atI_2, atI_3, gtD, modD, fdivD, intD, addD, subD, mulD, Ev.finish, powD, isiD, D.tyn, isT, evF_lst, evF_cat, evF_rep, evF_sl, evF_bil, evF_bis, evF_bid, evF_rng, evF_dnew, evF_ssi, ex1_ex, ex1_nm, ex1_tp, ex1_par, ex1_ret, ex1_ret0, ex1_ite, ex1_sti, leD, ltD, geD, lenD, isD, isnD, isB, D.items, neD, eqD, eqB])
  obtain ⟨e, rfl, p1, p2⟩ : ∃ e, d = .int e ∧ 0 ≤ e ∧ e < 60 := by
    simp -dsimp only [List.mem_cons, List.not_mem_nil, or_false] at hdm
    rcases hdm with rfl | rfl | rfl
    · exact ⟨0, rfl, by decide, by decide⟩
    · exact ⟨r1, rfl, a1, by omega⟩
    · exact ⟨r2, rfl, a2, b2⟩
  refine ⟨r0, e, o3, ?_, a0, b0, p1, p2, h3⟩
  have hs : ds.length < 16777216 := by omega
  unfold turnF
  simp -dsimp only [bindT]
  rw [if_pos (by simp -dsimp [exs, ev, evs, evP, evC, evT, opn, op2, op1, peek, peeks, truX, truth, biD, cmpD, binD, bindT, bindTs, frzX, frzXs, O.toD, X1.sl, ix_tup, ix_lst, ix_rls, atI_0, atI_1, atI_2, atI_3, gtD, modD, fdivD, intD, addD, subD, mulD, Ev.finish, powD, isiD, D.tyn, isT, evF_lst, evF_cat, evF_rep, evF_sl, evF_bil, evF_bis, evF_bid, evF_rng, evF_dnew, evF_ssi, ex1_ex, ex1_nm, ex1_tp, ex1_par, ex1_ret, ex1_ret0, ex1_ite, ex1_sti, leD, ltD, geD, lenD, isD, isnD, isB, D.items, neD, eqD, eqB])]
  show exs _ _ [.h 0, .v (.int wide), .v (.int lap), .v (.int day), .h 1] _ = _
  unfold B_law_sums_1
  rw [exs_nx (ρ1 := [.h 0, .v (.int wide), .v (.int lap), .v (.int (day + 1 + r0)), .h 1]) (φ1 := [o0, .lst ds]) (by simp -dsimp [exs, ev, evs, evP, evC, evT, opn, op2, op1, peek, peeks, truX, truth, biD, cmpD, binD, bindT, bindTs, frzX, frzXs, O.toD, X1.sl, ix_tup, ix_lst, ix_rls, atI_0, atI_1, atI_2, atI_3, gtD, modD, fdivD, intD, addD, subD, mulD, Ev.finish, powD, isiD, D.tyn, isT, evF_lst, evF_cat, evF_rep, evF_sl, evF_bil, evF_bis, evF_bid, evF_rng, evF_dnew, evF_ssi, ex1_ex, ex1_nm, ex1_tp, ex1_par, ex1_ret, ex1_ret0, ex1_ite, ex1_sti, leD, ltD, geD, lenD, isD, isnD, isB, D.items, neD, eqD, eqB, e0])]
  rw [exs_nx (ρ1 := [.h 0, .v (.int wide), .v (.int lap), .v (.int (day + 1 + r0)), .h 1]) (φ1 := [o3, .lst (ds ++ [.tup [.int (day + 1 + r0), .int e]])]) (by rw [ex1_app (i := 4) (j := 1) rfl rfl]; simp -dsimp [exs, ev, evs, evP, evC, evT, opn, op2, op1, peek, peeks, truX, truth, biD, cmpD, binD, bindT, bindTs, frzX, frzXs, O.toD, X1.sl, ix_tup, ix_lst, ix_rls, atI_0, atI_1, atI_2, atI_3, gtD, modD, fdivD, intD, addD, subD, mulD, Ev.finish, powD, isiD, D.tyn, isT, evF_lst, evF_cat, evF_rep, evF_sl, evF_bil, evF_bis, evF_bid, evF_rng, evF_dnew, evF_ssi, ex1_ex, ex1_nm, ex1_tp, ex1_par, ex1_ret, ex1_ret0, ex1_ite, ex1_sti, leD, ltD, geD, lenD, isD, isnD, isB, D.items, neD, eqD, eqB, e1, e2, e3, sizeLine_eq, hs])]
  rfl
structure LSm (sm : Sm) : Prop where
  v : VSm sm
  len : sm.length ≤ 6
  bd : ∀ p ∈ sm, p.1 ≤ 54 ∧ p.2 ≤ 59
theorem law_sums_ok {b : Nat} {o : O} {wide : Int} (h : PotB (b + 32) o) (hw : 0 < wide) (hw2 : wide ≤ 9) : ∃ sm o', F_law_sums [.h 0, .v (.int wide)] [o] = .ok (.v (.tup (sm.map prD))) [o'] ∧ LSm sm ∧ PotB b o' := by
  obtain ⟨r1, o1, e1, a1, b1, h1⟩ := take_call (b := b + 31) (φ := [o, .lst []]) (j := 0) (u := 6) rfl h (by decide) (by decide)
  have hI : evI [F_law_take, F_law_of] (.rng1 (.bin .Add (.con (.int 1)) (.call 0 [(.slot 0), (.con (.int 6))]))) [.h 0, .v (.int wide), .u, .v (.int 0), .h 1] [o, .lst []] = .ok ⟨rngL 0 (1 + r1), true, []⟩ [o1, .lst []] := evI_rng1 (by simp -dsimp [exs, ev, evs, evP, evC, evT, opn, op2, op1, peek, peeks, truX, truth, biD, cmpD, binD, bindT, bindTs, frzX, frzXs, O.toD, X1.sl, ix_tup, ix_lst, ix_rls, atI_0, atI_1, atI_2, atI_3, gtD, modD, fdivD, intD, addD, subD, mulD, Ev.finish, powD, isiD, D.tyn, isT, evF_lst, evF_cat, evF_rep, evF_sl, evF_bil, evF_bis, evF_bid, evF_rng, evF_dnew, evF_ssi, ex1_ex, ex1_nm, ex1_tp, ex1_par, ex1_ret, ex1_ret0, ex1_ite, ex1_sti, leD, ltD, geD, lenD, isD, isnD, isB, D.items, neD, eqD, eqB, e1]) (inRng_of (by omega) (by omega))
  obtain ⟨ρ', φ', e, s', day, sm, o', p1, p2, p3, p4, p5, p6, p7⟩ := forL_inv (f := turnF [F_law_take, F_law_of] (.nm 2) B_law_sums_1) (fun i ρ φ => ∃ (s : Sl) (day : Int) (sm : Sm) (o : O), ρ = [.h 0, .v (.int wide), s, .v (.int day), .h 1] ∧ φ = [o, .lst (sm.map prD)] ∧ PotB (b + 4 * (6 - i)) o ∧ sm.length = i ∧ day ≤ 9 * i ∧ (∀ p ∈ sm, 1 ≤ p.1 ∧ p.1 ≤ day ∧ 0 ≤ p.2 ∧ p.2 ≤ 59) ∧ (sm.map (·.1)).Pairwise (· < ·) ∧ 0 ≤ day) (rngL 0 (1 + r1)) 0 [.h 0, .v (.int wide), .u, .v (.int 0), .h 1] [o1, .lst []] ⟨.u, 0, [], o1, rfl, rfl, h1.le (by omega), rfl, by omega, (fun _ h => nomatch h), by simp -dsimp [exs, ev, evs, evP, evC, evT, opn, op2, op1, peek, peeks, truX, truth, biD, cmpD, binD, bindT, bindTs, frzX, frzXs, O.toD, X1.sl, ix_tup, ix_lst, ix_rls, atI_0, atI_1, atI_2, atI_3, gtD, modD, fdivD, intD, addD, subD, mulD, Ev.finish, powD, isiD, D.tyn, isT, evF_lst, evF_cat, evF_rep, evF_sl, evF_bil, evF_bis, evF_bid, evF_rng, evF_dnew, evF_ssi, ex1_ex, ex1_nm, ex1_tp, ex1_par, ex1_ret, ex1_ret0, ex1_ite, ex1_sti, leD, ltD, geD, lenD, isD, isnD, isB, D.items, neD, eqD, eqB], by omega⟩ (by
    rintro j d ρ φ hj ⟨s, day, sm, o, r1', r2', hP, hl, hd, hb, ha, d0⟩
    obtain ⟨rfl, hj2⟩ := rngL_at hj
    have hj3 : j < 6 := by omega
    rw [Nat.zero_add] at *
    subst r1' r2'
    obtain ⟨e, c, o', et, q1, q2, q3, q4, hP'⟩ := ls_turn (b := b + 4 * (6 - (j + 1))) (o := o) (ds := sm.map prD) (day := day) (wide := wide) (lap := 0 + j) (s := s) (hP.le (by omega)) hw (by omega) (by rw [List.length_map]; omega)
    refine ⟨_, _, et, _, day + 1 + e, sm ++ [(day + 1 + e, c)], o', rfl, by rw [List.map_append]; rfl, hP', by simp -dsimp [exs, ev, evs, evP, evC, evT, opn, op2, op1, peek, peeks, truX, truth, biD, cmpD, binD, bindT, bindTs, frzX, frzXs, O.toD, X1.sl, ix_tup, ix_lst, ix_rls, atI_0, atI_1, atI_2, atI_3, gtD, modD, fdivD, intD, addD, subD, mulD, Ev.finish, powD, isiD, D.tyn, isT, evF_lst, evF_cat, evF_rep, evF_sl, evF_bil, evF_bis, evF_bid, evF_rng, evF_dnew, evF_ssi, ex1_ex, ex1_nm, ex1_tp, ex1_par, ex1_ret, ex1_ret0, ex1_ite, ex1_sti, leD, ltD, geD, lenD, isD, isnD, isB, D.items, neD, eqD, eqB, hl], by omega, ?_, ?_, by omega⟩
    · intro p hp
      rcases List.mem_append.mp hp with hp | hp
      · have := hb p hp; omega
      · rw [List.mem_singleton] at hp; subst hp; simp -dsimp only; omega
    · rw [List.map_append, List.pairwise_append]
      refine ⟨ha, List.pairwise_singleton .., fun x hx y hy => ?_⟩
      obtain ⟨p, hp, rfl⟩ := List.mem_map.mp hx
      simp -dsimp only [List.map_cons, List.map_nil, List.mem_singleton] at hy
      subst hy
      have := hb p hp
      omega)
  obtain ⟨p7, d0⟩ := p7
  subst p1 p2
  rw [Nat.zero_add, rngL_len] at *
  have hlen : sm.length = (1 + r1 - 0).toNat := p4
  have hls : (sm.map prD).length ≤ sizeLine := by rw [List.length_map, sizeLine_eq]; omega
  have ht : tupleD [.lst (sm.map prD)] = some (.tup (sm.map prD)) := rfl
  refine ⟨sm, o', ?_, ⟨⟨?_, by omega, fun p hp => ?_, p7⟩, by omega, fun p hp => ?_⟩, p3.le (by omega)⟩
  · have key : exs [F_law_take, F_law_of] il_law_sums [.h 0, .v (.int wide), .u, .u, .u] [o] = .ok (.rt (.v (.tup (sm.map prD)))) [o', .lst (sm.map prD)] := by
      unfold il_law_sums
      rw [exs_nx (ρ1 := [.h 0, .v (.int wide), .u, .v (.int 0), .h 1]) (φ1 := [o, .lst []]) (by simp -dsimp [exs, ev, evs, evP, evC, evT, opn, op2, op1, peek, peeks, truX, truth, biD, cmpD, binD, bindT, bindTs, frzX, frzXs, O.toD, X1.sl, ix_tup, ix_lst, ix_rls, atI_0, atI_1, atI_2, atI_3, gtD, modD, fdivD, intD, addD, subD, mulD, Ev.finish, powD, isiD, D.tyn, isT, evF_lst, evF_cat, evF_rep, evF_sl, evF_bil, evF_bis, evF_bid, evF_rng, evF_dnew, evF_ssi, ex1_ex, ex1_nm, ex1_tp, ex1_par, ex1_ret, ex1_ret0, ex1_ite, ex1_sti, leD, ltD, geD, lenD, isD, isnD, isB, D.items, neD, eqD, eqB, sizeLine_eq])]
      rw [exs_nx (ex1_for hI e)]
      show exs _ _ _ [o', .lst (sm.map prD)] = _
      simp -dsimp [exs, ev, evs, evP, evC, evT, opn, op2, op1, peek, peeks, truX, truth, biD, cmpD, binD, bindT, bindTs, frzX, frzXs, O.toD, X1.sl, ix_tup, ix_lst, ix_rls, atI_0, atI_1, atI_2, atI_3, gtD, modD, fdivD, intD, addD, subD, mulD, Ev.finish, powD, isiD, D.tyn, isT, evF_lst, evF_cat, evF_rep, evF_sl, evF_bil, evF_bis, evF_bid, evF_rng, evF_dnew, evF_ssi, ex1_ex, ex1_nm, ex1_tp, ex1_par, ex1_ret, ex1_ret0, ex1_ite, ex1_sti, leD, ltD, geD, lenD, isD, isnD, isB, D.items, neD, eqD, eqB, ht, -List.map_map]
    exact evFn_v key ⟨rfl, by decide⟩ rfl
  · intro hs; subst hs; simp -dsimp [exs, ev, evs, evP, evC, evT, opn, op2, op1, peek, peeks, truX, truth, biD, cmpD, binD, bindT, bindTs, frzX, frzXs, O.toD, X1.sl, ix_tup, ix_lst, ix_rls, atI_0, atI_1, atI_2, atI_3, gtD, modD, fdivD, intD, addD, subD, mulD, Ev.finish, powD, isiD, D.tyn, isT, evF_lst, evF_cat, evF_rep, evF_sl, evF_bil, evF_bis, evF_bid, evF_rng, evF_dnew, evF_ssi, ex1_ex, ex1_nm, ex1_tp, ex1_par, ex1_ret, ex1_ret0, ex1_ite, ex1_sti, leD, ltD, geD, lenD, isD, isnD, isB, D.items, neD, eqD, eqB] at hlen; omega
  · have := p6 p hp; omega
  · have := p6 p hp; omega
/-! ### least, of its own -/
def llW (sm : Sm) (m : Int) : D → Option D
  | .tup [.int o, .int c] => some (.int (c + L sm (m - o).toNat))
  | _ => none
theorem at_L {sm : Sm} {k : Nat} {i : Int} (h0 : 0 ≤ i) (h : i.toNat < k) : L2.atI (((List.range k).map (L sm)).map D.int) i = some (.int (L sm i.toNat)) := by
  rw [atI_of h0, List.getElem?_map, List.getElem?_map, List.getElem?_range h]; rfl
theorem min_L {sm : Sm} (h : VSm sm) (k : Nat) : minD [.lst ((sm.map prD).filterMap (llW sm ((k + 1 : Nat) : Int)))] = some (.int (L sm (k + 1))) := by
  have e1 : (sm.map prD).filterMap (llW sm ((k + 1 : Nat) : Int)) = (sm.map fun p => p.2 + L sm (((k + 1 : Nat) : Int) - p.1).toNat).map D.int := by
    rw [List.map_map, List.filterMap_map]
    exact fm_map _ fun p _ => rfl
  rw [e1]
  show (match D.allInts _ with | some ns => (mnI ns).map D.int | none => _) = _
  rw [D.allInts_map]
  show (mnI _).map D.int = _
  cases q : sm with
  | nil => exact absurd q h.ne
  | cons p r =>
    rw [← q]
    have e2 : (sm.map fun p => p.2 + L sm (((k + 1 : Nat) : Int) - p.1).toNat) = (p.2 + L sm (((k + 1 : Nat) : Int) - p.1).toNat) :: (r.map fun p => p.2 + L sm (((k + 1 : Nat) : Int) - p.1).toNat) := by rw [q]; rfl
    rw [e2]
    have hm := foldl_min_mem (r.map fun p => p.2 + L sm (((k + 1 : Nat) : Int) - p.1).toNat) (p.2 + L sm (((k + 1 : Nat) : Int) - p.1).toNat)
    have hl := foldl_min_le (r.map fun p => p.2 + L sm (((k + 1 : Nat) : Int) - p.1).toNat) (p.2 + L sm (((k + 1 : Nat) : Int) - p.1).toNat)
    show some (D.int (List.foldl min _ _)) = _
    generalize hM : List.foldl min (p.2 + L sm (((k + 1 : Nat) : Int) - p.1).toNat) (r.map fun p => p.2 + L sm (((k + 1 : Nat) : Int) - p.1).toNat) = M at *
    rw [← e2] at hm
    obtain ⟨i, p', hp', ep, hle⟩ := ent_rec h (n := k + 1) (by omega)
    have h1 : M ≤ p'.2 + L sm (((k + 1 : Nat) : Int) - p'.1).toNat := by
      have hmem : p'.2 + L sm (((k + 1 : Nat) : Int) - p'.1).toNat ∈ sm.map fun p => p.2 + L sm (((k + 1 : Nat) : Int) - p.1).toNat := List.mem_map.mpr ⟨p', List.mem_of_getElem? hp', rfl⟩
      rw [e2] at hmem
      rcases List.mem_cons.mp hmem with e | e
      · rw [e]; exact hl.1
      · exact hl.2 _ e
    have h2 : L sm (k + 1) = L sm (((k + 1 : Nat) : Int) - p'.1).toNat + p'.2 := by
      show (entG (rowsI sm) (k + 1)).1 = _
      rw [ep]
    obtain ⟨q', hq', eq'⟩ := List.mem_map.mp hm
    have h3 := hle q' hq'
    have : M = L sm (k + 1) := by omega
    rw [this]
theorem ll_turn {G : List FSem} {sm : Sm} (h : VSm sm) {k : Nat} (hk : k < 100) {n s3 : Sl} : turnF G (.nm 3) B_law_least_1 (.int ((k : Int) + 1)) [.v (.tup (sm.map prD)), n, .h 0, s3, .u, .u] [.lst (((List.range (k + 1)).map (L sm)).map D.int)] = .ok (.nx [.v (.tup (sm.map prD)), n, .h 0, .v (.int ((k : Int) + 1)), .u, .u]) [.lst (((List.range (k + 1 + 1)).map (L sm)).map D.int)] := by
  have hC : evF G C_law_least_1 [.v (.tup (sm.map prD)), n, .h 0, .v (.int ((k : Int) + 1)), .u, .u] [.lst (((List.range (k + 1)).map (L sm)).map D.int)] = .ok (.lst ((sm.map prD).filterMap (llW sm ((k + 1 : Nat) : Int)))) [.lst (((List.range (k + 1)).map (L sm)).map D.int)] := by
    unfold C_law_least_1
    rw [evF_comp2 (wk := ⟨sm.map prD, false, []⟩) (φ1 := [.lst (((List.range (k + 1)).map (L sm)).map D.int)]) (g := llW sm ((k + 1 : Nat) : Int)) (by simp -dsimp [exs, ev, evs, evP, evC, evT, opn, op2, op1, peek, peeks, truX, truth, biD, cmpD, binD, bindT, bindTs, frzX, frzXs, O.toD, X1.sl, ix_tup, ix_lst, ix_rls, atI_0, atI_1, atI_2, atI_3, gtD, modD, fdivD, intD, addD, subD, mulD, Ev.finish, powD, isiD, D.tyn, isT, evF_lst, evF_cat, evF_rep, evF_sl, evF_bil, evF_bis, evF_bid, evF_rng, evF_dnew, evF_ssi, ex1_ex, ex1_nm, ex1_tp, ex1_par, ex1_ret, ex1_ret0, ex1_ite, ex1_sti, leD, ltD, geD, lenD, isD, isnD, isB, D.items, neD, eqD, eqB, evI, walkX, D.seqs, -List.map_map]) (by simp -dsimp only [List.length_map]; have := h.len; rw [sizeLine_eq]; omega) (by
      intro d hd
      obtain ⟨p, hp, rfl⟩ := List.mem_map.mp hd
      have hb := h.bd p hp
      have ha := at_L (sm := sm) (k := k + 1) (i := max 0 ((k : Int) + 1 - p.1)) (by omega) (by omega)
      have hm : maxD [.int 0, .int ((k : Int) + 1 - p.1)] = some (.int (max 0 ((k : Int) + 1 - p.1))) := rfl
      have hz : (max 0 ((k : Int) + 1 - p.1)).toNat = ((k : Int) + 1 - p.1).toNat := by omega
      rw [hz] at ha
      have hr : llW sm ((k + 1 : Nat) : Int) (prD p) = some (.int (p.2 + L sm ((k : Int) + 1 - p.1).toNat)) := rfl
      rw [hr]
      simp -dsimp [exs, ev, evs, evP, evC, evT, opn, op2, op1, peek, peeks, truX, truth, biD, cmpD, binD, bindT, bindTs, frzX, frzXs, O.toD, X1.sl, ix_tup, ix_lst, ix_rls, atI_0, atI_1, atI_2, atI_3, gtD, modD, fdivD, intD, addD, subD, mulD, Ev.finish, powD, isiD, D.tyn, isT, evF_lst, evF_cat, evF_rep, evF_sl, evF_bil, evF_bis, evF_bid, evF_rng, evF_dnew, evF_ssi, ex1_ex, ex1_nm, ex1_tp, ex1_par, ex1_ret, ex1_ret0, ex1_ite, ex1_sti, leD, ltD, geD, lenD, isD, isnD, isB, D.items, neD, eqD, eqB, one1, wipeR, prD, hm, ha, sizeLine_eq, -List.map_map])]
    rfl
  have hmn := min_L h k
  have hl : (((List.range (k + 1)).map (L sm)).map D.int).length < sizeLine := by rw [List.length_map, List.length_map, List.length_range, sizeLine_eq]; omega
  unfold turnF B_law_least_1
  simp -dsimp only [bindT]
  rw [if_pos (by simp -dsimp [exs, ev, evs, evP, evC, evT, opn, op2, op1, peek, peeks, truX, truth, biD, cmpD, binD, bindT, bindTs, frzX, frzXs, O.toD, X1.sl, ix_tup, ix_lst, ix_rls, atI_0, atI_1, atI_2, atI_3, gtD, modD, fdivD, intD, addD, subD, mulD, Ev.finish, powD, isiD, D.tyn, isT, evF_lst, evF_cat, evF_rep, evF_sl, evF_bil, evF_bis, evF_bid, evF_rng, evF_dnew, evF_ssi, ex1_ex, ex1_nm, ex1_tp, ex1_par, ex1_ret, ex1_ret0, ex1_ite, ex1_sti, leD, ltD, geD, lenD, isD, isnD, isB, D.items, neD, eqD, eqB])]
  show exs G _ [.v (.tup (sm.map prD)), n, .h 0, .v (.int ((k : Int) + 1)), .u, .u] _ = _
  have e : ((List.range (k + 1 + 1)).map (L sm)).map D.int = ((List.range (k + 1)).map (L sm)).map D.int ++ [.int (L sm (k + 1))] := by
    rw [List.range_succ (n := k + 1), List.map_append, List.map_append]; rfl
  rw [e]
  generalize ((List.range (k + 1)).map (L sm)).map D.int = T at *
  generalize (sm.map prD).filterMap (llW sm ((k + 1 : Nat) : Int)) = R at *
  rw [exs_nx (ρ1 := [.v (.tup (sm.map prD)), n, .h 0, .v (.int ((k : Int) + 1)), .u, .u]) (φ1 := [.lst (T ++ [.int (L sm (k + 1))])]) (by
    rw [ex1_app (i := 2) (j := 0) rfl rfl]
    simp -dsimp [exs, ev, evs, evP, evC, evT, opn, op2, op1, peek, peeks, truX, truth, biD, cmpD, binD, bindT, bindTs, frzX, frzXs, O.toD, X1.sl, ix_tup, ix_lst, ix_rls, atI_0, atI_1, atI_2, atI_3, gtD, modD, fdivD, intD, addD, subD, mulD, Ev.finish, powD, isiD, D.tyn, isT, evF_lst, evF_cat, evF_rep, evF_sl, evF_bil, evF_bis, evF_bid, evF_rng, evF_dnew, evF_ssi, ex1_ex, ex1_nm, ex1_tp, ex1_par, ex1_ret, ex1_ret0, ex1_ite, ex1_sti, leD, ltD, geD, lenD, isD, isnD, isB, D.items, neD, eqD, eqB, hC, hmn, hl])]
  rfl
theorem law_least_ok {sm : Sm} (h : VSm sm) : F_law_least [.v (.tup (sm.map prD)), .v (.int 48)] [] = .ok (.h 0) [.lst (((List.range 49).map (L sm)).map D.int)] := by
  have hI : evI [] (.rng2 (.con (.int 1)) (.bin .Add (.slot 1) (.con (.int 1)))) [.v (.tup (sm.map prD)), .v (.int 48), .h 0, .u, .u, .u] [.lst (((List.range 1).map (L sm)).map D.int)] = .ok ⟨rngL 1 49, true, []⟩ [.lst (((List.range 1).map (L sm)).map D.int)] := evI_rng2 (by simp -dsimp [exs, ev, evs, evP, evC, evT, opn, op2, op1, peek, peeks, truX, truth, biD, cmpD, binD, bindT, bindTs, frzX, frzXs, O.toD, X1.sl, ix_tup, ix_lst, ix_rls, atI_0, atI_1, atI_2, atI_3, gtD, modD, fdivD, intD, addD, subD, mulD, Ev.finish, powD, isiD, D.tyn, isT, evF_lst, evF_cat, evF_rep, evF_sl, evF_bil, evF_bis, evF_bid, evF_rng, evF_dnew, evF_ssi, ex1_ex, ex1_nm, ex1_tp, ex1_par, ex1_ret, ex1_ret0, ex1_ite, ex1_sti, leD, ltD, geD, lenD, isD, isnD, isB, D.items, neD, eqD, eqB]) (by simp -dsimp [exs, ev, evs, evP, evC, evT, opn, op2, op1, peek, peeks, truX, truth, biD, cmpD, binD, bindT, bindTs, frzX, frzXs, O.toD, X1.sl, ix_tup, ix_lst, ix_rls, atI_0, atI_1, atI_2, atI_3, gtD, modD, fdivD, intD, addD, subD, mulD, Ev.finish, powD, isiD, D.tyn, isT, evF_lst, evF_cat, evF_rep, evF_sl, evF_bil, evF_bis, evF_bid, evF_rng, evF_dnew, evF_ssi, ex1_ex, ex1_nm, ex1_tp, ex1_par, ex1_ret, ex1_ret0, ex1_ite, ex1_sti, leD, ltD, geD, lenD, isD, isnD, isB, D.items, neD, eqD, eqB]) (by decide) (by decide)
  obtain ⟨ρ', φ', e, s3, r1, r2⟩ := forL_inv (f := turnF [] (.nm 3) B_law_least_1) (fun j ρ φ => ∃ s3, ρ = [.v (.tup (sm.map prD)), .v (.int 48), .h 0, s3, .u, .u] ∧ φ = [.lst (((List.range (j + 1)).map (L sm)).map D.int)]) (rngL 1 49) 0 [.v (.tup (sm.map prD)), .v (.int 48), .h 0, .u, .u, .u] [.lst (((List.range 1).map (L sm)).map D.int)] ⟨.u, rfl, rfl⟩ (by
    rintro j d ρ φ hj ⟨s3, r1, r2⟩
    obtain ⟨rfl, hj2⟩ := rngL_at hj
    have hj3 : j < 48 := by simpa using hj2
    rw [Nat.zero_add] at *
    subst r1 r2
    have e := ll_turn (G := []) h (k := j) (by omega) (n := .v (.int 48)) (s3 := s3)
    rw [show (1 : Int) + j = (j : Int) + 1 by omega]
    exact ⟨_, _, e, _, rfl, rfl⟩)
  have hlen : 0 + (rngL 1 49).length + 1 = 49 := by rw [rngL_len]; rfl
  rw [hlen] at r2
  subst r1 r2
  have key : exs [] il_law_least [.v (.tup (sm.map prD)), .v (.int 48), .u, .u, .u, .u] [] = .ok (.rt (.h 0)) [.lst (((List.range 49).map (L sm)).map D.int)] := by
    unfold il_law_least
    rw [exs_nx (ρ1 := [.v (.tup (sm.map prD)), .v (.int 48), .h 0, .u, .u, .u]) (φ1 := [.lst (((List.range 1).map (L sm)).map D.int)]) (by
      have : ((List.range 1).map (L sm)).map D.int = [.int 0] := rfl
      rw [this]
      simp -dsimp [exs, ev, evs, evP, evC, evT, opn, op2, op1, peek, peeks, truX, truth, biD, cmpD, binD, bindT, bindTs, frzX, frzXs, O.toD, X1.sl, ix_tup, ix_lst, ix_rls, atI_0, atI_1, atI_2, atI_3, gtD, modD, fdivD, intD, addD, subD, mulD, Ev.finish, powD, isiD, D.tyn, isT, evF_lst, evF_cat, evF_rep, evF_sl, evF_bil, evF_bis, evF_bid, evF_rng, evF_dnew, evF_ssi, ex1_ex, ex1_nm, ex1_tp, ex1_par, ex1_ret, ex1_ret0, ex1_ite, ex1_sti, leD, ltD, geD, lenD, isD, isnD, isB, D.items, neD, eqD, eqB, sizeLine_eq])]
    rw [exs_nx (ex1_for hI e)]
    rfl
  exact evFn_l key ⟨rfl, by decide⟩ rfl (Nat.zero_le _) rfl
end K38
namespace K38
open PySem Ev
def iv : D → Int
  | .int i => i
  | _ => 0
def adjLe : List Int → Bool
  | x :: y :: r => decide (x ≤ y) && adjLe (y :: r)
  | _ => true
theorem adjLe_iff : ∀ ns : List Int, adjLe ns = true ↔ ns.Pairwise (· ≤ ·)
  | [] => by simp -dsimp [exs, ev, evs, evP, evC, evT, opn, op2, op1, peek, peeks, truX, truth, biD, cmpD, binD, bindT, bindTs, frzX, frzXs, O.toD, X1.sl, ix_tup, ix_lst, ix_rls, atI_0, atI_1, atI_2, atI_3, gtD, modD, fdivD, intD, addD, subD, mulD, Ev.finish, powD, isiD, D.tyn, isT, evF_lst, evF_cat, evF_rep, evF_sl, evF_bil, evF_bis, evF_bid, evF_rng, evF_dnew, evF_ssi, ex1_ex, ex1_nm, ex1_tp, ex1_par, ex1_ret, ex1_ret0, ex1_ite, ex1_sti, leD, ltD, geD, lenD, isD, isnD, isB, D.items, neD, eqD, eqB, adjLe]
  | [x] => by simp -dsimp [exs, ev, evs, evP, evC, evT, opn, op2, op1, peek, peeks, truX, truth, biD, cmpD, binD, bindT, bindTs, frzX, frzXs, O.toD, X1.sl, ix_tup, ix_lst, ix_rls, atI_0, atI_1, atI_2, atI_3, gtD, modD, fdivD, intD, addD, subD, mulD, Ev.finish, powD, isiD, D.tyn, isT, evF_lst, evF_cat, evF_rep, evF_sl, evF_bil, evF_bis, evF_bid, evF_rng, evF_dnew, evF_ssi, ex1_ex, ex1_nm, ex1_tp, ex1_par, ex1_ret, ex1_ret0, ex1_ite, ex1_sti, leD, ltD, geD, lenD, isD, isnD, isB, D.items, neD, eqD, eqB, adjLe]
  | x :: y :: r => by
    have ih := adjLe_iff (y :: r)
    rw [List.pairwise_cons, ← ih]
    simp -dsimp only [adjLe, Bool.and_eq_true, decide_eq_true_eq]
    constructor
    · rintro ⟨h1, h2⟩
      refine ⟨fun z hz => ?_, h2⟩
      rcases List.mem_cons.mp hz with rfl | hz
      · exact h1
      · exact Int.le_trans h1 ((List.pairwise_cons.mp (ih.mp h2)).1 z hz)
    · rintro ⟨h1, h2⟩
      exact ⟨h1 y List.mem_cons_self, h2⟩
theorem srt_iff {ns : List Int} : ns = srt ns ↔ adjLe ns = true := by
  rw [adjLe_iff]
  constructor
  · intro h
    rw [h]; exact srt_sorted ns
  · intro h
    exact perm_sorted_eq (srt_perm ns).symm h (srt_sorted ns)
/-- what is right -/
def rowB (sm : Sm) (n num : Int) (xs : List D) : Bool := xs.all (fun d => btw d 0 (sm.length - 1)) && (if n = 0 then xs.isEmpty else adjLe (xs.map iv) && decide (n ≤ ownS sm (xs.map iv)) && decide (cstS sm (xs.map iv) = num))
def toldB (sm : Sm) (n num : Int) : D → Bool
  | .tup [.int x, .tup xs] => decide (x = num) && rowB sm n num xs
  | _ => false
theorem btw_int {d : D} {a b : Int} (h : btw d a b = true) : ∃ i, d = .int i ∧ a ≤ i ∧ i ≤ b := by
  cases d with
  | int i =>
    simp -dsimp only [btw, Bool.and_eq_true, decide_eq_true_eq] at h
    exact ⟨i, rfl, h⟩
  | _ => cases h
theorem all_ints {xs : List D} {b : Int} (h : xs.all (fun d => btw d 0 (b - 1)) = true) : ∃ ns : List Int, xs = ns.map D.int ∧ ∀ a ∈ ns, 0 ≤ a ∧ a < b := by
  induction xs with
  | nil => exact ⟨[], rfl, fun _ h => nomatch h⟩
  | cons x xs ih =>
    rw [List.all_cons, Bool.and_eq_true] at h
    obtain ⟨i, rfl, h1, h2⟩ := btw_int h.1
    obtain ⟨ns, rfl, hn⟩ := ih h.2
    refine ⟨i :: ns, rfl, fun a ha => ?_⟩
    rcases List.mem_cons.mp ha with rfl | ha
    · exact ⟨h1, by omega⟩
    · exact hn a ha
theorem map_iv (ns : List Int) : (ns.map D.int).map iv = ns := by
  rw [List.map_map]
  induction ns with
  | nil => rfl
  | cons n ns ih => rw [List.map_cons, ih]; rfl
theorem allD_bls (bs : List Bool) : allD [.lst (bs.map D.bl)] = some (.bl (bs.all id)) := by
  have : D.allBls (bs.map D.bl) = some bs := by
    induction bs with
    | nil => rfl
    | cons b bs ih => simp -dsimp only [List.map_cons, D.allBls, ih, Option.map_some]
  show (D.allBls (bs.map D.bl)).map _ = _
  rw [this]; rfl
theorem sum_comp1 {G : List FSem} {sm : Sm} {ns : List Int} {s1 s2 s3 s5 : Sl} {rest : List Sl} {φ : List O} (hl : ns.length ≤ 1000) (hr : ∀ a ∈ ns, 0 ≤ a ∧ a < sm.length) : evF G (.comp [5] (.nm 5) (.seq (.slot 4)) none (.ix (.ix (.slot 0) (.slot 5)) (.con (.int 1)))) (.v (.tup (sm.map prD)) :: s1 :: s2 :: s3 :: .v (.tup (ns.map D.int)) :: s5 :: rest) φ = .ok (.lst ((ns.map fun a => (sm.getD a.toNat (0, 0)).2).map D.int)) φ := by
  rw [evF_comp2 (wk := ⟨ns.map D.int, false, []⟩) (φ1 := φ) (g := fun d => some (.int (sm.getD (iv d).toNat (0, 0)).2)) (by simp -dsimp [exs, ev, evs, evP, evC, evT, opn, op2, op1, peek, peeks, truX, truth, biD, cmpD, binD, bindT, bindTs, frzX, frzXs, O.toD, X1.sl, ix_tup, ix_lst, ix_rls, atI_0, atI_1, atI_2, atI_3, gtD, modD, fdivD, intD, addD, subD, mulD, Ev.finish, powD, isiD, D.tyn, isT, evF_lst, evF_cat, evF_rep, evF_sl, evF_bil, evF_bis, evF_bid, evF_rng, evF_dnew, evF_ssi, ex1_ex, ex1_nm, ex1_tp, ex1_par, ex1_ret, ex1_ret0, ex1_ite, ex1_sti, leD, ltD, geD, lenD, isD, isnD, isB, D.items, neD, eqD, eqB, evI, walkX, D.seqs, -List.map_map]) (by rw [sizeLine_eq]; simp -dsimp only [List.length_map]; omega) (by
    intro d hd
    obtain ⟨a, ha, rfl⟩ := List.mem_map.mp hd
    have hb := hr a ha
    have hat := at_prs (T := sm) (i := a) hb.1 (by omega)
    simp -dsimp [exs, ev, evs, evP, evC, evT, opn, op2, op1, peek, peeks, truX, truth, biD, cmpD, binD, bindT, bindTs, frzX, frzXs, O.toD, X1.sl, ix_tup, ix_lst, ix_rls, atI_0, atI_1, atI_2, atI_3, gtD, modD, fdivD, intD, addD, subD, mulD, Ev.finish, powD, isiD, D.tyn, isT, evF_lst, evF_cat, evF_rep, evF_sl, evF_bil, evF_bis, evF_bid, evF_rng, evF_dnew, evF_ssi, ex1_ex, ex1_nm, ex1_tp, ex1_par, ex1_ret, ex1_ret0, ex1_ite, ex1_sti, leD, ltD, geD, lenD, isD, isnD, isB, D.items, neD, eqD, eqB, one1, wipeR, hat, iv, -List.map_map])]
  show R.ok (O.lst ((ns.map D.int).filterMap _)) _ = _
  rw [List.filterMap_map, List.map_map]
  exact congrArg (fun l => R.ok (O.lst l) φ) (fm_map ns fun a _ => rfl)
theorem sum_comp0 {G : List FSem} {sm : Sm} {ns : List Int} {s1 s2 s3 s5 : Sl} {rest : List Sl} {φ : List O} (hl : ns.length ≤ 1000) (hr : ∀ a ∈ ns, 0 ≤ a ∧ a < sm.length) : evF G (.comp [5] (.nm 5) (.seq (.slot 4)) none (.ix (.ix (.slot 0) (.slot 5)) (.con (.int 0)))) (.v (.tup (sm.map prD)) :: s1 :: s2 :: s3 :: .v (.tup (ns.map D.int)) :: s5 :: rest) φ = .ok (.lst ((ns.map fun a => (sm.getD a.toNat (0, 0)).1).map D.int)) φ := by
  rw [evF_comp2 (wk := ⟨ns.map D.int, false, []⟩) (φ1 := φ) (g := fun d => some (.int (sm.getD (iv d).toNat (0, 0)).1)) (by simp -dsimp [exs, ev, evs, evP, evC, evT, opn, op2, op1, peek, peeks, truX, truth, biD, cmpD, binD, bindT, bindTs, frzX, frzXs, O.toD, X1.sl, ix_tup, ix_lst, ix_rls, atI_0, atI_1, atI_2, atI_3, gtD, modD, fdivD, intD, addD, subD, mulD, Ev.finish, powD, isiD, D.tyn, isT, evF_lst, evF_cat, evF_rep, evF_sl, evF_bil, evF_bis, evF_bid, evF_rng, evF_dnew, evF_ssi, ex1_ex, ex1_nm, ex1_tp, ex1_par, ex1_ret, ex1_ret0, ex1_ite, ex1_sti, leD, ltD, geD, lenD, isD, isnD, isB, D.items, neD, eqD, eqB, evI, walkX, D.seqs, -List.map_map]) (by rw [sizeLine_eq]; simp -dsimp only [List.length_map]; omega) (by
    intro d hd
    obtain ⟨a, ha, rfl⟩ := List.mem_map.mp hd
    have hb := hr a ha
    have hat := at_prs (T := sm) (i := a) hb.1 (by omega)
    simp -dsimp [exs, ev, evs, evP, evC, evT, opn, op2, op1, peek, peeks, truX, truth, biD, cmpD, binD, bindT, bindTs, frzX, frzXs, O.toD, X1.sl, ix_tup, ix_lst, ix_rls, atI_0, atI_1, atI_2, atI_3, gtD, modD, fdivD, intD, addD, subD, mulD, Ev.finish, powD, isiD, D.tyn, isT, evF_lst, evF_cat, evF_rep, evF_sl, evF_bil, evF_bis, evF_bid, evF_rng, evF_dnew, evF_ssi, ex1_ex, ex1_nm, ex1_tp, ex1_par, ex1_ret, ex1_ret0, ex1_ite, ex1_sti, leD, ltD, geD, lenD, isD, isnD, isB, D.items, neD, eqD, eqB, one1, wipeR, hat, iv, -List.map_map])]
  show R.ok (O.lst ((ns.map D.int).filterMap _)) _ = _
  rw [List.filterMap_map, List.map_map]
  exact congrArg (fun l => R.ok (O.lst l) φ) (fm_map ns fun a _ => rfl)
theorem btw_comp {F : FSem} {G : List FSem} {S xs : List D} {s1 s2 s3 s5 : Sl} {rest : List Sl} {φ : List O} (hs : S.length ≤ 1000) (hl : xs.length ≤ 1000) (hF : ∀ d ∈ xs, ∀ φ, callX F [.v d, .v (.int 0), .v (.int ((S.length : Int) - 1))] φ = .ok (.v (.bl (btw d 0 ((S.length : Int) - 1)))) φ) : evF (F :: G) (.comp [5] (.nm 5) (.seq (.slot 4)) none (.call 0 [(.slot 5), (.con (.int 0)), (.bin .Sub (.bi .len [(.slot 0)]) (.con (.int 1)))])) (.v (.tup S) :: s1 :: s2 :: s3 :: .v (.tup xs) :: s5 :: rest) φ = .ok (.lst ((xs.map fun d => btw d 0 ((S.length : Int) - 1)).map D.bl)) φ := by
  have hs2 : S.length ≤ 16777216 := by omega
  rw [evF_comp2 (wk := ⟨xs, false, []⟩) (φ1 := φ) (g := fun d => some (.bl (btw d 0 ((S.length : Int) - 1)))) (by simp -dsimp [exs, ev, evs, evP, evC, evT, opn, op2, op1, peek, peeks, truX, truth, biD, cmpD, binD, bindT, bindTs, frzX, frzXs, O.toD, X1.sl, ix_tup, ix_lst, ix_rls, atI_0, atI_1, atI_2, atI_3, gtD, modD, fdivD, intD, addD, subD, mulD, Ev.finish, powD, isiD, D.tyn, isT, evF_lst, evF_cat, evF_rep, evF_sl, evF_bil, evF_bis, evF_bid, evF_rng, evF_dnew, evF_ssi, ex1_ex, ex1_nm, ex1_tp, ex1_par, ex1_ret, ex1_ret0, ex1_ite, ex1_sti, leD, ltD, geD, lenD, isD, isnD, isB, D.items, neD, eqD, eqB, evI, walkX, D.seqs]) (by rw [sizeLine_eq]; show xs.length ≤ _; omega) (by
    intro d hd
    have h := hF d hd
    generalize btw d 0 ((S.length : Int) - 1) = bb at *
    simp -dsimp [exs, ev, evs, evP, evC, evT, opn, op2, op1, peek, peeks, truX, truth, biD, cmpD, binD, bindT, bindTs, frzX, frzXs, O.toD, X1.sl, ix_tup, ix_lst, ix_rls, atI_0, atI_1, atI_2, atI_3, gtD, modD, fdivD, intD, addD, subD, mulD, Ev.finish, powD, isiD, D.tyn, isT, evF_lst, evF_cat, evF_rep, evF_sl, evF_bil, evF_bis, evF_bid, evF_rng, evF_dnew, evF_ssi, ex1_ex, ex1_nm, ex1_tp, ex1_par, ex1_ret, ex1_ret0, ex1_ite, ex1_sti, leD, ltD, geD, lenD, isD, isnD, isB, D.items, neD, eqD, eqB, one1, wipeR, h, sizeLine_eq, hs2])]
  show R.ok (O.lst (xs.filterMap _)) _ = _
  rw [List.map_map]
  exact congrArg (fun l => R.ok (O.lst l) φ) (fm_map xs fun a _ => rfl)
end K38
namespace K38
open PySem Ev
theorem eqD_nil {ns : List Int} (hl : ns.length ≤ 1000) : eqD (.tup (ns.map D.int)) (.tup []) = some (.bl (ns.map D.int).isEmpty) := by
  cases ns with
  | nil => rfl
  | cons n ns =>
    have h1 : D.py (.tup ((n :: ns).map D.int)) = some (.tuple ((n :: ns).map PyData.int)) := by
      simp -dsimp only [D.py, pys_ints, Option.map_some]
    have h2 : SeqAt.shaped (.tuple ((n :: ns).map PyData.int)) = true := by
      have h := shaped_ints (n :: ns)
      unfold SeqAt.shaped at h ⊢
      exact h
    show ((match D.py (.tup ((n :: ns).map D.int)), D.py (.tup []) with
      | some p, some q => if SeqAt.shaped p && SeqAt.shaped q then some (PyData.eqv p q) else none
      | _, _ => none : Option Bool)).map D.bl = _
    rw [h1]
    show (if (SeqAt.shaped (.tuple ((n :: ns).map PyData.int)) && true) = true then some (PyData.eqv (.tuple ((n :: ns).map PyData.int)) (.tuple [])) else none).map D.bl = _
    rw [h2]
    rfl
theorem neD_srt (ns : List Int) : neD (.lst (ns.map D.int)) (.lst ((srt ns).map D.int)) = some (.bl (!adjLe ns)) := by
  unfold neD
  rw [eqB_ints]
  have : decide (ns = srt ns) = adjLe ns := by
    by_cases h : adjLe ns = true
    · rw [h]; exact decide_eq_true (srt_iff.mpr h)
    · rw [Bool.not_eq_true] at h
      rw [h]
      exact decide_eq_false fun e => by rw [srt_iff.mp e] at h; cases h
  rw [this]; rfl
/-! ### the law's own look -/
theorem it_shape {F : FSem} {su v : D} {n num : Int} (g : Good v) (hsh : Sh v) (h : ∀ a b, v ≠ .tup [a, b]) : exs [F] il_law_is_told [.v su, .v (.int n), .v (.int num), .v v, .u, .u] [] = .ok (.rt (.v (.bl false))) [] := by
  unfold il_law_is_told
  refine exs_rt ?_
  cases g with
  | tup xs _ =>
    by_cases h2 : xs.length = 2
    · match xs, h2 with
      | [a, b], _ => exact absurd rfl (h a b)
    · have hs : xs.length ≤ sizeLine := by rw [sizeLine_eq]; have := hsh xs rfl; omega
      have h3 : ¬ ((xs.length : Int) = 2) := by omega
      simp -dsimp [exs, ev, evs, evP, evC, evT, opn, op2, op1, peek, peeks, truX, truth, biD, cmpD, binD, bindT, bindTs, frzX, frzXs, O.toD, X1.sl, ix_tup, ix_lst, ix_rls, atI_0, atI_1, atI_2, atI_3, gtD, modD, fdivD, intD, addD, subD, mulD, Ev.finish, powD, isiD, D.tyn, isT, evF_lst, evF_cat, evF_rep, evF_sl, evF_bil, evF_bis, evF_bid, evF_rng, evF_dnew, evF_ssi, ex1_ex, ex1_nm, ex1_tp, ex1_par, ex1_ret, ex1_ret0, ex1_ite, ex1_sti, leD, ltD, geD, lenD, isD, isnD, isB, D.items, neD, eqD, eqB, h2, h3, hs]
  | _ => simp -dsimp [exs, ev, evs, evP, evC, evT, opn, op2, op1, peek, peeks, truX, truth, biD, cmpD, binD, bindT, bindTs, frzX, frzXs, O.toD, X1.sl, ix_tup, ix_lst, ix_rls, atI_0, atI_1, atI_2, atI_3, gtD, modD, fdivD, intD, addD, subD, mulD, Ev.finish, powD, isiD, D.tyn, isT, evF_lst, evF_cat, evF_rep, evF_sl, evF_bil, evF_bis, evF_bid, evF_rng, evF_dnew, evF_ssi, ex1_ex, ex1_nm, ex1_tp, ex1_par, ex1_ret, ex1_ret0, ex1_ite, ex1_sti, leD, ltD, geD, lenD, isD, isnD, isB, D.items, neD, eqD, eqB]
theorem it_repr {F : FSem} {su a r : D} {n num : Int} {s1 s2 : Str} (h1 : reprD [a] = some (.str s1)) (h2 : reprD [.int num] = some (.str s2)) (h : s1 ≠ s2) : exs [F] il_law_is_told [.v su, .v (.int n), .v (.int num), .v (.tup [a, r]), .u, .u] [] = .ok (.rt (.v (.bl false))) [] := by
  unfold il_law_is_told
  refine exs_rt ?_
  simp -dsimp [exs, ev, evs, evP, evC, evT, opn, op2, op1, peek, peeks, truX, truth, biD, cmpD, binD, bindT, bindTs, frzX, frzXs, O.toD, X1.sl, ix_tup, ix_lst, ix_rls, atI_0, atI_1, atI_2, atI_3, gtD, modD, fdivD, intD, addD, subD, mulD, Ev.finish, powD, isiD, D.tyn, isT, evF_lst, evF_cat, evF_rep, evF_sl, evF_bil, evF_bis, evF_bid, evF_rng, evF_dnew, evF_ssi, ex1_ex, ex1_nm, ex1_tp, ex1_par, ex1_ret, ex1_ret0, ex1_ite, ex1_sti, leD, ltD, geD, lenD, isD, isnD, isB, D.items, neD, eqD, eqB, h1, h2, h, sizeLine_eq]
theorem it_pre {F : FSem} {su r : D} {n num : Int} {s2 : Str} (h2 : reprD [.int num] = some (.str s2)) : exs [F] il_law_is_told [.v su, .v (.int n), .v (.int num), .v (.tup [.int num, r]), .u, .u] [] = exs [F] (il_law_is_told.drop 2) [.v su, .v (.int n), .v (.int num), .v (.tup [.int num, r]), .v r, .u] [] := by
  unfold il_law_is_told
  rw [exs_nx (ρ1 := [.v su, .v (.int n), .v (.int num), .v (.tup [.int num, r]), .u, .u]) (φ1 := []) (by simp -dsimp [exs, ev, evs, evP, evC, evT, opn, op2, op1, peek, peeks, truX, truth, biD, cmpD, binD, bindT, bindTs, frzX, frzXs, O.toD, X1.sl, ix_tup, ix_lst, ix_rls, atI_0, atI_1, atI_2, atI_3, gtD, modD, fdivD, intD, addD, subD, mulD, Ev.finish, powD, isiD, D.tyn, isT, evF_lst, evF_cat, evF_rep, evF_sl, evF_bil, evF_bis, evF_bid, evF_rng, evF_dnew, evF_ssi, ex1_ex, ex1_nm, ex1_tp, ex1_par, ex1_ret, ex1_ret0, ex1_ite, ex1_sti, leD, ltD, geD, lenD, isD, isnD, isB, D.items, neD, eqD, eqB, h2, sizeLine_eq])]
  rw [exs_nx (ρ1 := [.v su, .v (.int n), .v (.int num), .v (.tup [.int num, r]), .v r, .u]) (φ1 := []) (by simp -dsimp [exs, ev, evs, evP, evC, evT, opn, op2, op1, peek, peeks, truX, truth, biD, cmpD, binD, bindT, bindTs, frzX, frzXs, O.toD, X1.sl, ix_tup, ix_lst, ix_rls, atI_0, atI_1, atI_2, atI_3, gtD, modD, fdivD, intD, addD, subD, mulD, Ev.finish, powD, isiD, D.tyn, isT, evF_lst, evF_cat, evF_rep, evF_sl, evF_bil, evF_bis, evF_bid, evF_rng, evF_dnew, evF_ssi, ex1_ex, ex1_nm, ex1_tp, ex1_par, ex1_ret, ex1_ret0, ex1_ite, ex1_sti, leD, ltD, geD, lenD, isD, isnD, isB, D.items, neD, eqD, eqB])]
  rfl
theorem it_row {F : FSem} {su r : D} {n num : Int} {s3 : Sl} (g : Good r) (h : ∀ xs, r ≠ .tup xs) : exs [F] (il_law_is_told.drop 2) [.v su, .v (.int n), .v (.int num), s3, .v r, .u] [] = .ok (.rt (.v (.bl false))) [] := by
  unfold il_law_is_told
  refine exs_rt ?_
  cases g with
  | tup xs _ => exact absurd rfl (h xs)
  | _ => simp -dsimp [exs, ev, evs, evP, evC, evT, opn, op2, op1, peek, peeks, truX, truth, biD, cmpD, binD, bindT, bindTs, frzX, frzXs, O.toD, X1.sl, ix_tup, ix_lst, ix_rls, atI_0, atI_1, atI_2, atI_3, gtD, modD, fdivD, intD, addD, subD, mulD, Ev.finish, powD, isiD, D.tyn, isT, evF_lst, evF_cat, evF_rep, evF_sl, evF_bil, evF_bis, evF_bid, evF_rng, evF_dnew, evF_ssi, ex1_ex, ex1_nm, ex1_tp, ex1_par, ex1_ret, ex1_ret0, ex1_ite, ex1_sti, leD, ltD, geD, lenD, isD, isnD, isB, D.items, neD, eqD, eqB]
theorem it_all {F : FSem} {su : D} {xs : List D} {n num : Int} {s3 : Sl} {L3 : List D} {b3 : Bool} (hC : evF [F] C_law_is_told_3 [.v su, .v (.int n), .v (.int num), s3, .v (.tup xs), .u] [] = .ok (.lst L3) []) (ha : allD [.lst L3] = some (.bl b3)) : ex1 [F] (.ite (.or (.not (.bi .isi [(.slot 4), (.glo "tuple" (.ty .tup))])) (.not (.bi .all [(.frz C_law_is_told_3)]))) [
    .ret (.con (.bl false))] []) [.v su, .v (.int n), .v (.int num), s3, .v (.tup xs), .u] [] = if b3 then .ok (.nx [.v su, .v (.int n), .v (.int num), s3, .v (.tup xs), .u]) [] else .ok (.rt (.v (.bl false))) [] := by
  cases b3 <;> simp -dsimp [exs, ev, evs, evP, evC, evT, opn, op2, op1, peek, peeks, truX, truth, biD, cmpD, binD, bindT, bindTs, frzX, frzXs, O.toD, X1.sl, ix_tup, ix_lst, ix_rls, atI_0, atI_1, atI_2, atI_3, gtD, modD, fdivD, intD, addD, subD, mulD, Ev.finish, powD, isiD, D.tyn, isT, evF_lst, evF_cat, evF_rep, evF_sl, evF_bil, evF_bis, evF_bid, evF_rng, evF_dnew, evF_ssi, ex1_ex, ex1_nm, ex1_tp, ex1_par, ex1_ret, ex1_ret0, ex1_ite, ex1_sti, leD, ltD, geD, lenD, isD, isnD, isB, D.items, neD, eqD, eqB, hC, ha]
theorem it_zero {F : FSem} {su : D} {xs : List D} {num : Int} {s3 : Sl} {b : Bool} (he : eqD (.tup xs) (.tup []) = some (.bl b)) {rest : List IS} : exs [F] (.ite (.cmp .Eq (.slot 1) (.con (.int 0))) [
    .ret (.cmp .Eq (.slot 4) (.tup []))] [] :: rest) [.v su, .v (.int 0), .v (.int num), s3, .v (.tup xs), .u] [] = .ok (.rt (.v (.bl b))) [] := by
  refine exs_rt ?_
  have h0 : eqD (.int 0) (.int 0) = some (.bl true) := rfl
  simp -dsimp [exs, ev, evs, evP, evC, evT, opn, op2, op1, peek, peeks, truX, truth, biD, cmpD, binD, bindT, bindTs, frzX, frzXs, O.toD, X1.sl, ix_tup, ix_lst, ix_rls, atI_0, atI_1, atI_2, atI_3, gtD, modD, fdivD, intD, addD, subD, mulD, Ev.finish, powD, isiD, D.tyn, isT, evF_lst, evF_cat, evF_rep, evF_sl, evF_bil, evF_bis, evF_bid, evF_rng, evF_dnew, evF_ssi, ex1_ex, ex1_nm, ex1_tp, ex1_par, ex1_ret, ex1_ret0, ex1_ite, ex1_sti, leD, ltD, geD, lenD, isD, isnD, isB, D.items, neD, he, h0, sizeLine_eq]
theorem it_nz {F : FSem} {su : D} {xs : List D} {n num : Int} {s3 : Sl} (hn : n ≠ 0) : ex1 [F] (.ite (.cmp .Eq (.slot 1) (.con (.int 0))) [
    .ret (.cmp .Eq (.slot 4) (.tup []))] []) [.v su, .v (.int n), .v (.int num), s3, .v (.tup xs), .u] [] = .ok (.nx [.v su, .v (.int n), .v (.int num), s3, .v (.tup xs), .u]) [] := by
  simp -dsimp [exs, ev, evs, evP, evC, evT, opn, op2, op1, peek, peeks, truX, truth, biD, cmpD, binD, bindT, bindTs, frzX, frzXs, O.toD, X1.sl, ix_tup, ix_lst, ix_rls, atI_0, atI_1, atI_2, atI_3, gtD, modD, fdivD, intD, addD, subD, mulD, Ev.finish, powD, isiD, D.tyn, isT, evF_lst, evF_cat, evF_rep, evF_sl, evF_bil, evF_bis, evF_bid, evF_rng, evF_dnew, evF_ssi, ex1_ex, ex1_nm, ex1_tp, ex1_par, ex1_ret, ex1_ret0, ex1_ite, ex1_sti, leD, ltD, geD, lenD, isD, isnD, isB, D.items, neD, eqD, eqB, hn]
theorem it_tail {F : FSem} {su : D} {xs ys L1 L2' : List D} {n num t1 t2 : Int} {s3 : Sl} {b4 : Bool} (hs : sortedF [.tup xs] = some (.lst ys)) (hne : neD (.lst xs) (.lst ys) = some (.bl (!b4)))
    (h2 : evF [F] C_law_is_told_2 [.v su, .v (.int n), .v (.int num), s3, .v (.tup xs), .u] [] = .ok (.lst L2') []) (e2 : sumD [.lst L2'] = some (.int t2)) (h1 : evF [F] C_law_is_told_1 [.v su, .v (.int n), .v (.int num), s3, .v (.tup xs), .u] [] = .ok (.lst L1) []) (e1 : sumD [.lst L1] = some (.int t1)) :
    exs [F] [.ite (.or (.cmp .NotEq (.frz (.bi .list (.slot 4))) (.frz (.bi .sorted (.slot 4)))) (.cmp .Lt (.bi .sum [(.frz C_law_is_told_2)]) (.slot 1))) [
    .ret (.con (.bl false))] [],
  .ret (.cmp .Eq (.bi .sum [(.frz C_law_is_told_1)]) (.slot 2))] [.v su, .v (.int n), .v (.int num), s3, .v (.tup xs), .u] [] = .ok (.rt (.v (.bl (b4 && decide (n ≤ t2) && decide (t1 = num))))) [] := by
  have hl : listF [.tup xs] = some (.lst xs) := rfl
  have he : eqD (.int t1) (.int num) = some (.bl (decide (t1 = num))) := rfl
  cases b4 with
  | false =>
    rw [exs_rt (x := .v (.bl false)) (φ1 := []) (by simp -dsimp [exs, ev, evs, evP, evC, evT, opn, op2, op1, peek, peeks, truX, truth, biD, cmpD, binD, bindT, bindTs, frzX, frzXs, O.toD, X1.sl, ix_tup, ix_lst, ix_rls, atI_0, atI_1, atI_2, atI_3, gtD, modD, fdivD, intD, addD, subD, mulD, Ev.finish, powD, isiD, D.tyn, isT, evF_lst, evF_cat, evF_rep, evF_sl, evF_bil, evF_bis, evF_bid, evF_rng, evF_dnew, evF_ssi, ex1_ex, ex1_nm, ex1_tp, ex1_par, ex1_ret, ex1_ret0, ex1_ite, ex1_sti, leD, ltD, geD, lenD, isD, isnD, isB, D.items, eqD, hl, hs, hne])]
    rfl
  | true =>
    by_cases hlt : t2 < n
    · have hd : decide (n ≤ t2) = false := by rw [decide_eq_false_iff_not]; omega
      rw [exs_rt (x := .v (.bl false)) (φ1 := []) (by simp -dsimp [exs, ev, evs, evP, evC, evT, opn, op2, op1, peek, peeks, truX, truth, biD, cmpD, binD, bindT, bindTs, frzX, frzXs, O.toD, X1.sl, ix_tup, ix_lst, ix_rls, atI_0, atI_1, atI_2, atI_3, gtD, modD, fdivD, intD, addD, subD, mulD, Ev.finish, powD, isiD, D.tyn, isT, evF_lst, evF_cat, evF_rep, evF_sl, evF_bil, evF_bis, evF_bid, evF_rng, evF_dnew, evF_ssi, ex1_ex, ex1_nm, ex1_tp, ex1_par, ex1_ret, ex1_ret0, ex1_ite, ex1_sti, leD, ltD, geD, lenD, isD, isnD, isB, D.items, eqD, hl, hs, hne, h2, e2, hlt])]
      rw [hd]; rfl
    · have hd : decide (n ≤ t2) = true := by rw [decide_eq_true_eq]; omega
      rw [exs_nx (ρ1 := [.v su, .v (.int n), .v (.int num), s3, .v (.tup xs), .u]) (φ1 := []) (by simp -dsimp [exs, ev, evs, evP, evC, evT, opn, op2, op1, peek, peeks, truX, truth, biD, cmpD, binD, bindT, bindTs, frzX, frzXs, O.toD, X1.sl, ix_tup, ix_lst, ix_rls, atI_0, atI_1, atI_2, atI_3, gtD, modD, fdivD, intD, addD, subD, mulD, Ev.finish, powD, isiD, D.tyn, isT, evF_lst, evF_cat, evF_rep, evF_sl, evF_bil, evF_bis, evF_bid, evF_rng, evF_dnew, evF_ssi, ex1_ex, ex1_nm, ex1_tp, ex1_par, ex1_ret, ex1_ret0, ex1_ite, ex1_sti, leD, ltD, geD, lenD, isD, isnD, isB, D.items, eqD, hl, hs, hne, h2, e2, hlt])]
      rw [hd]
      simp -dsimp [exs, ev, evs, evP, evC, evT, opn, op2, op1, peek, peeks, truX, truth, biD, cmpD, binD, bindT, bindTs, frzX, frzXs, O.toD, X1.sl, ix_tup, ix_lst, ix_rls, atI_0, atI_1, atI_2, atI_3, gtD, modD, fdivD, intD, addD, subD, mulD, Ev.finish, powD, isiD, D.tyn, isT, evF_lst, evF_cat, evF_rep, evF_sl, evF_bil, evF_bis, evF_bid, evF_rng, evF_dnew, evF_ssi, ex1_ex, ex1_nm, ex1_tp, ex1_par, ex1_ret, ex1_ret0, ex1_ite, ex1_sti, leD, ltD, geD, lenD, isD, isnD, isB, D.items, neD, h1, e1, he]
theorem sumD_ints (ns : List Int) : sumD [.lst (ns.map D.int)] = some (.int ns.sum) := by
  show (D.allInts (ns.map D.int)).map _ = _
  rw [D.allInts_map]; rfl
end K38
namespace K38
open PySem Ev
theorem toldB_no {sm : Sm} {n num : Int} {v : D} (h : ∀ a b, v ≠ .tup [a, b]) : toldB sm n num v = false := by
  unfold toldB
  split
  · exact absurd rfl (h _ _)
  · rfl
theorem toldB_ne {sm : Sm} {n num : Int} {a r : D} (h : a ≠ .int num) : toldB sm n num (.tup [a, r]) = false := by
  unfold toldB
  split
  · rename_i x xs e
    cases e
    have : decide (x = num) = false := by rw [decide_eq_false_iff_not]; exact fun e => h (by rw [e])
    rw [this]; rfl
  · rfl
theorem toldB_nr {sm : Sm} {n num : Int} {a r : D} (h : ∀ xs, r ≠ .tup xs) : toldB sm n num (.tup [a, r]) = false := by
  unfold toldB
  split
  · rename_i x xs e
    cases e
    exact absurd rfl (h xs)
  · rfl
theorem toldB_eq {sm : Sm} {n num : Int} {xs : List D} : toldB sm n num (.tup [.int num, .tup xs]) = rowB sm n num xs := by
  simp -dsimp [exs, ev, evs, evP, evC, evT, opn, op2, op1, peek, peeks, truX, truth, biD, cmpD, binD, bindT, bindTs, frzX, frzXs, O.toD, X1.sl, ix_tup, ix_lst, ix_rls, atI_0, atI_1, atI_2, atI_3, gtD, modD, fdivD, intD, addD, subD, mulD, Ev.finish, powD, isiD, D.tyn, isT, evF_lst, evF_cat, evF_rep, evF_sl, evF_bil, evF_bis, evF_bid, evF_rng, evF_dnew, evF_ssi, ex1_ex, ex1_nm, ex1_tp, ex1_par, ex1_ret, ex1_ret0, ex1_ite, ex1_sti, leD, ltD, geD, lenD, isD, isnD, isB, D.items, neD, eqD, eqB, toldB]
/-- of a value: it can be looked at -/
structure Lk (v : D) : Prop where
  g : Good v
  s : Sh v
  p : ∀ a b, v = .tup [a, b] → RB a ∧ Sh b
theorem is_told_ok {sm : Sm} (h : VSm sm) {n num : Int} (hnum : num.natAbs ≤ 10000000) {v : D} (hv : Lk v) : exs [F_law_is_int] il_law_is_told [.v (.tup (sm.map prD)), .v (.int n), .v (.int num), .v v, .u, .u] [] = .ok (.rt (.v (.bl (toldB sm n num v)))) [] := by
  by_cases hp : ∃ a b, v = .tup [a, b]
  · obtain ⟨a, r, rfl⟩ := hp
    obtain ⟨⟨st, hst, hiff⟩, hsr⟩ := hv.p a r rfl
    obtain ⟨st2, hst2, hiff2⟩ := rb_int hnum
    have e2 : st2 = Str.ofString (toString num) := (hiff2 num).mpr rfl
    have ga : Good a := Good.tupI hv.g a (by simp -dsimp [exs, ev, evs, evP, evC, evT, opn, op2, op1, peek, peeks, truX, truth, biD, cmpD, binD, bindT, bindTs, frzX, frzXs, O.toD, X1.sl, ix_tup, ix_lst, ix_rls, atI_0, atI_1, atI_2, atI_3, gtD, modD, fdivD, intD, addD, subD, mulD, Ev.finish, powD, isiD, D.tyn, isT, evF_lst, evF_cat, evF_rep, evF_sl, evF_bil, evF_bis, evF_bid, evF_rng, evF_dnew, evF_ssi, ex1_ex, ex1_nm, ex1_tp, ex1_par, ex1_ret, ex1_ret0, ex1_ite, ex1_sti, leD, ltD, geD, lenD, isD, isnD, isB, D.items, neD, eqD, eqB])
    have gr : Good r := Good.tupI hv.g r (by simp -dsimp [exs, ev, evs, evP, evC, evT, opn, op2, op1, peek, peeks, truX, truth, biD, cmpD, binD, bindT, bindTs, frzX, frzXs, O.toD, X1.sl, ix_tup, ix_lst, ix_rls, atI_0, atI_1, atI_2, atI_3, gtD, modD, fdivD, intD, addD, subD, mulD, Ev.finish, powD, isiD, D.tyn, isT, evF_lst, evF_cat, evF_rep, evF_sl, evF_bil, evF_bis, evF_bid, evF_rng, evF_dnew, evF_ssi, ex1_ex, ex1_nm, ex1_tp, ex1_par, ex1_ret, ex1_ret0, ex1_ite, ex1_sti, leD, ltD, geD, lenD, isD, isnD, isB, D.items, neD, eqD, eqB])
    by_cases ha : a = .int num
    · subst ha
      rw [it_pre hst2]
      by_cases hr : ∃ xs, r = .tup xs
      · obtain ⟨xs, rfl⟩ := hr
        have hl : xs.length ≤ 100 := hsr xs rfl
        have hsl : (sm.map prD).length = sm.length := List.length_map _
        have hC := btw_comp (F := F_law_is_int) (G := []) (S := sm.map prD) (xs := xs) (s1 := .v (.int n)) (s2 := .v (.int num)) (s3 := .v (.tup [.int num, .tup xs])) (s5 := .u) (rest := []) (φ := []) (by rw [hsl]; have := h.len; omega) (by omega) (fun d hd φ => law_is_int_call (Good.tupI gr d hd) 0 _ φ)
        have hall := allD_bls (xs.map fun d => btw d 0 (((sm.map prD).length : Int) - 1))
        rw [List.all_map] at hall
        rw [hsl] at hC hall
        rw [toldB_eq]
        unfold il_law_is_told
        show exs [F_law_is_int] (_ :: _) _ _ = _
        cases hb : xs.all (fun d => btw d 0 ((sm.length : Int) - 1)) with
        | false =>
          have hall' : allD [.lst ((xs.map fun d => btw d 0 ((sm.length : Int) - 1)).map D.bl)] = some (.bl false) := by
            rw [hall]; exact congrArg (fun b => some (D.bl b)) hb
          rw [exs_rt (it_all hC hall')]
          unfold rowB
          rw [hb]; rfl
        | true =>
          have hall' : allD [.lst ((xs.map fun d => btw d 0 ((sm.length : Int) - 1)).map D.bl)] = some (.bl true) := by
            rw [hall]; exact congrArg (fun b => some (D.bl b)) hb
          rw [exs_nx (it_all hC hall')]
          obtain ⟨ns, rfl, hns⟩ := all_ints hb
          rw [List.length_map] at hl
          by_cases h0 : n = 0
          · subst h0
            rw [it_zero (eqD_nil (by omega))]
            unfold rowB
            rw [hb]; rfl
          · rw [exs_nx (it_nz h0)]
            have hso : sortedF [.tup (ns.map D.int)] = some (.lst ((srt ns).map D.int)) := by
              show (D.allInts (ns.map D.int)).map _ = _
              rw [D.allInts_map]; rfl
            rw [it_tail hso (neD_srt ns) (sum_comp0 (by omega) hns) (sumD_ints _) (sum_comp1 (by omega) hns) (sumD_ints _)]
            unfold rowB
            rw [hb, map_iv, if_neg h0]; rfl
      · have hr' : ∀ xs, r ≠ .tup xs := fun xs e => hr ⟨xs, e⟩
        rw [it_row gr hr', toldB_nr hr']
    · have hne : st ≠ st2 := fun e => ha ((hiff num).mp (e.trans e2))
      rw [it_repr hst hst2 hne, toldB_ne ha]
  · have hp' : ∀ a b, v ≠ .tup [a, b] := fun a b e => hp ⟨a, b, e⟩
    rw [it_shape hv.g hv.s hp', toldB_no hp']
theorem callX_a4 {F : FSem} {a b c d r : D} {φ ψ : List O} (h : F [.v a, .v b, .v c, .v d] [] = .ok (.v r) ψ) : callX F [.v a, .v b, .v c, .v d] φ = .ok (.v r) φ := callX_tree [a, b, c, d] h
theorem is_told_call {sm : Sm} (h : VSm sm) {n num : Int} (hnum : num.natAbs ≤ 10000000) {v : D} (hv : Lk v) (φ : List O) : callX F_law_is_told [.v (.tup (sm.map prD)), .v (.int n), .v (.int num), .v v] φ = .ok (.v (.bl (toldB sm n num v))) φ :=
  callX_a4 (evFn_v (is_told_ok h hnum hv) ⟨rfl, by decide⟩ rfl)
/-! ### the program's own look -/
section
variable {F1 F2 F3 F4 F5 : FSem} {su v a r : D} {n num : Int} {T xs : List D} {s2 : Sl}
theorem sb_c1 (h1 : ∀ φ, callX F5 [.v su] φ = .ok (.v .non) φ) : ex1 [F1, F2, F3, F4, F5] (.ex (.call 4 [(.slot 0)])) [.v su, .v (.int n), .v v, .u, .u, .u, .u, .u] [] = .ok (.nx [.v su, .v (.int n), .v v, .u, .u, .u, .u, .u]) [] := by
  simp -dsimp [exs, ev, evs, evP, evC, evT, opn, op2, op1, peek, peeks, truX, truth, biD, cmpD, binD, bindT, bindTs, frzX, frzXs, O.toD, X1.sl, ix_tup, ix_lst, ix_rls, atI_0, atI_1, atI_2, atI_3, gtD, modD, fdivD, intD, addD, subD, mulD, Ev.finish, powD, isiD, D.tyn, isT, evF_lst, evF_cat, evF_rep, evF_sl, evF_bil, evF_bis, evF_bid, evF_rng, evF_dnew, evF_ssi, ex1_ex, ex1_nm, ex1_tp, ex1_par, ex1_ret, ex1_ret0, ex1_ite, ex1_sti, leD, ltD, geD, lenD, isD, isnD, isB, D.items, neD, eqD, eqB, h1]
theorem sb_c2 (h1 : ∀ φ, callX F4 [.v (.int n), .v (.int 0)] φ = .ok (.v .non) φ) : ex1 [F1, F2, F3, F4, F5] (.ex (.call 3 [(.slot 1), (.con (.int 0))])) [.v su, .v (.int n), .v v, .u, .u, .u, .u, .u] [] = .ok (.nx [.v su, .v (.int n), .v v, .u, .u, .u, .u, .u]) [] := by
  simp -dsimp [exs, ev, evs, evP, evC, evT, opn, op2, op1, peek, peeks, truX, truth, biD, cmpD, binD, bindT, bindTs, frzX, frzXs, O.toD, X1.sl, ix_tup, ix_lst, ix_rls, atI_0, atI_1, atI_2, atI_3, gtD, modD, fdivD, intD, addD, subD, mulD, Ev.finish, powD, isiD, D.tyn, isT, evF_lst, evF_cat, evF_rep, evF_sl, evF_bil, evF_bis, evF_bid, evF_rng, evF_dnew, evF_ssi, ex1_ex, ex1_nm, ex1_tp, ex1_par, ex1_ret, ex1_ret0, ex1_ite, ex1_sti, leD, ltD, geD, lenD, isD, isnD, isB, D.items, neD, eqD, eqB, h1]
def sb3 : IS := .ite (.or (.not (.bi .isi [(.slot 2), (.glo "tuple" (.ty .tup))])) (.or (.cmp .NotEq (.bi .len [(.slot 2)]) (.con (.int 2))) (.or (.not (.call 2 [(.ix (.slot 2) (.con (.int 0)))])) (.not (.bi .isi [(.ix (.slot 2) (.con (.int 1))), (.glo "tuple" (.ty .tup))]))))) [
    .ret (.con (.bl false))] []
theorem sb_shape (g : Good v) (hsh : Sh v) (h : ∀ a b, v ≠ .tup [a, b]) : ex1 [F1, F2, F3, F4, F5] sb3 [.v su, .v (.int n), .v v, .u, .u, .u, .u, .u] [] = .ok (.rt (.v (.bl false))) [] := by
  unfold sb3
  cases g with
  | tup xs _ =>
    by_cases h2 : xs.length = 2
    · match xs, h2 with
      | [a, b], _ => exact absurd rfl (h a b)
    · have hs : xs.length ≤ sizeLine := by rw [sizeLine_eq]; have := hsh xs rfl; omega
      have h3 : ¬ ((xs.length : Int) = 2) := by omega
      simp -dsimp [exs, ev, evs, evP, evC, evT, opn, op2, op1, peek, peeks, truX, truth, biD, cmpD, binD, bindT, bindTs, frzX, frzXs, O.toD, X1.sl, ix_tup, ix_lst, ix_rls, atI_0, atI_1, atI_2, atI_3, gtD, modD, fdivD, intD, addD, subD, mulD, Ev.finish, powD, isiD, D.tyn, isT, evF_lst, evF_cat, evF_rep, evF_sl, evF_bil, evF_bis, evF_bid, evF_rng, evF_dnew, evF_ssi, ex1_ex, ex1_nm, ex1_tp, ex1_par, ex1_ret, ex1_ret0, ex1_ite, ex1_sti, leD, ltD, geD, lenD, isD, isnD, isB, D.items, neD, eqD, eqB, h2, h3, hs]
  | _ => simp -dsimp [exs, ev, evs, evP, evC, evT, opn, op2, op1, peek, peeks, truX, truth, biD, cmpD, binD, bindT, bindTs, frzX, frzXs, O.toD, X1.sl, ix_tup, ix_lst, ix_rls, atI_0, atI_1, atI_2, atI_3, gtD, modD, fdivD, intD, addD, subD, mulD, Ev.finish, powD, isiD, D.tyn, isT, evF_lst, evF_cat, evF_rep, evF_sl, evF_bil, evF_bis, evF_bid, evF_rng, evF_dnew, evF_ssi, ex1_ex, ex1_nm, ex1_tp, ex1_par, ex1_ret, ex1_ret0, ex1_ite, ex1_sti, leD, ltD, geD, lenD, isD, isnD, isB, D.items, neD, eqD, eqB]
theorem sb_int (h : ∀ φ, callX F3 [.v a] φ = .ok (.v (.bl false)) φ) : ex1 [F1, F2, F3, F4, F5] sb3 [.v su, .v (.int n), .v (.tup [a, r]), .u, .u, .u, .u, .u] [] = .ok (.rt (.v (.bl false))) [] := by
  unfold sb3
  simp -dsimp [exs, ev, evs, evP, evC, evT, opn, op2, op1, peek, peeks, truX, truth, biD, cmpD, binD, bindT, bindTs, frzX, frzXs, O.toD, X1.sl, ix_tup, ix_lst, ix_rls, atI_0, atI_1, atI_2, atI_3, gtD, modD, fdivD, intD, addD, subD, mulD, Ev.finish, powD, isiD, D.tyn, isT, evF_lst, evF_cat, evF_rep, evF_sl, evF_bil, evF_bis, evF_bid, evF_rng, evF_dnew, evF_ssi, ex1_ex, ex1_nm, ex1_tp, ex1_par, ex1_ret, ex1_ret0, ex1_ite, ex1_sti, leD, ltD, geD, lenD, isD, isnD, isB, D.items, neD, eqD, eqB, h, sizeLine_eq]
theorem sb_row (g : Good r) (hr : ∀ xs, r ≠ .tup xs) (h : ∀ φ, callX F3 [.v a] φ = .ok (.v (.bl true)) φ) : ex1 [F1, F2, F3, F4, F5] sb3 [.v su, .v (.int n), .v (.tup [a, r]), .u, .u, .u, .u, .u] [] = .ok (.rt (.v (.bl false))) [] := by
  unfold sb3
  cases g with
  | tup xs _ => exact absurd rfl (hr xs)
  | _ => simp -dsimp [exs, ev, evs, evP, evC, evT, opn, op2, op1, peek, peeks, truX, truth, biD, cmpD, binD, bindT, bindTs, frzX, frzXs, O.toD, X1.sl, ix_tup, ix_lst, ix_rls, atI_0, atI_1, atI_2, atI_3, gtD, modD, fdivD, intD, addD, subD, mulD, Ev.finish, powD, isiD, D.tyn, isT, evF_lst, evF_cat, evF_rep, evF_sl, evF_bil, evF_bis, evF_bid, evF_rng, evF_dnew, evF_ssi, ex1_ex, ex1_nm, ex1_tp, ex1_par, ex1_ret, ex1_ret0, ex1_ite, ex1_sti, leD, ltD, geD, lenD, isD, isnD, isB, D.items, neD, eqD, eqB, h, sizeLine_eq]
theorem sb_on (h : ∀ φ, callX F3 [.v a] φ = .ok (.v (.bl true)) φ) : ex1 [F1, F2, F3, F4, F5] sb3 [.v su, .v (.int n), .v (.tup [a, .tup xs]), .u, .u, .u, .u, .u] [] = .ok (.nx [.v su, .v (.int n), .v (.tup [a, .tup xs]), .u, .u, .u, .u, .u]) [] := by
  unfold sb3
  simp -dsimp [exs, ev, evs, evP, evC, evT, opn, op2, op1, peek, peeks, truX, truth, biD, cmpD, binD, bindT, bindTs, frzX, frzXs, O.toD, X1.sl, ix_tup, ix_lst, ix_rls, atI_0, atI_1, atI_2, atI_3, gtD, modD, fdivD, intD, addD, subD, mulD, Ev.finish, powD, isiD, D.tyn, isT, evF_lst, evF_cat, evF_rep, evF_sl, evF_bil, evF_bis, evF_bid, evF_rng, evF_dnew, evF_ssi, ex1_ex, ex1_nm, ex1_tp, ex1_par, ex1_ret, ex1_ret0, ex1_ite, ex1_sti, leD, ltD, geD, lenD, isD, isnD, isB, D.items, neD, eqD, eqB, h, sizeLine_eq]
theorem sb_tp : ex1 [F1, F2, F3, F4, F5] (.asg (.tp [(.nm 3), (.nm 4)]) (.slot 2)) [.v su, .v (.int n), .v (.tup [a, .tup xs]), .u, .u, .u, .u, .u] [] = .ok (.nx [.v su, .v (.int n), .v (.tup [a, .tup xs]), .v a, .v (.tup xs), .u, .u, .u]) [] := by
  simp -dsimp [exs, ev, evs, evP, evC, evT, opn, op2, op1, peek, peeks, truX, truth, biD, cmpD, binD, bindT, bindTs, frzX, frzXs, O.toD, X1.sl, ix_tup, ix_lst, ix_rls, atI_0, atI_1, atI_2, atI_3, gtD, modD, fdivD, intD, addD, subD, mulD, Ev.finish, powD, isiD, D.tyn, isT, evF_lst, evF_cat, evF_rep, evF_sl, evF_bil, evF_bis, evF_bid, evF_rng, evF_dnew, evF_ssi, ex1_ex, ex1_nm, ex1_tp, ex1_par, ex1_ret, ex1_ret0, ex1_ite, ex1_sti, leD, ltD, geD, lenD, isD, isnD, isB, D.items, neD, eqD, eqB]
def sb5 : IS := .ite (.or (.cmp .NotEq (.slot 3) (.ix (.ix (.call 1 [(.slot 0), (.slot 1)]) (.slot 1)) (.con (.int 0)))) (.not (.bi .all [(.frz C_shows_below_4)]))) [
    .ret (.con (.bl false))] []
theorem sb_num {x b e : Int} (h : ∀ φ, callX F2 [.v su, .v (.int n)] φ = .ok (.h φ.length) (φ ++ [.lst T])) (ha : L2.atI T n = some (.tup [.int b, .int e])) (hx : x ≠ b) : ex1 [F1, F2, F3, F4, F5] sb5 [.v su, .v (.int n), s2, .v (.int x), .v (.tup xs), .u, .u, .u] [] = .ok (.rt (.v (.bl false))) [.lst T] := by
  unfold sb5
  simp -dsimp [exs, ev, evs, evP, evC, evT, opn, op2, op1, peek, peeks, truX, truth, biD, cmpD, binD, bindT, bindTs, frzX, frzXs, O.toD, X1.sl, ix_tup, ix_lst, ix_rls, atI_0, atI_1, atI_2, atI_3, gtD, modD, fdivD, intD, addD, subD, mulD, Ev.finish, powD, isiD, D.tyn, isT, evF_lst, evF_cat, evF_rep, evF_sl, evF_bil, evF_bis, evF_bid, evF_rng, evF_dnew, evF_ssi, ex1_ex, ex1_nm, ex1_tp, ex1_par, ex1_ret, ex1_ret0, ex1_ite, ex1_sti, leD, ltD, geD, lenD, isD, isnD, isB, D.items, neD, eqD, eqB, h, ha, hx]
theorem sb_all {b e : Int} {L4 : List D} {b4 : Bool} (h : ∀ φ, callX F2 [.v su, .v (.int n)] φ = .ok (.h φ.length) (φ ++ [.lst T])) (ha : L2.atI T n = some (.tup [.int b, .int e])) (hC : evF [F1, F2, F3, F4, F5] C_shows_below_4 [.v su, .v (.int n), s2, .v (.int b), .v (.tup xs), .u, .u, .u] [.lst T] = .ok (.lst L4) [.lst T]) (hA : allD [.lst L4] = some (.bl b4)) :
    ex1 [F1, F2, F3, F4, F5] sb5 [.v su, .v (.int n), s2, .v (.int b), .v (.tup xs), .u, .u, .u] [] = if b4 then .ok (.nx [.v su, .v (.int n), s2, .v (.int b), .v (.tup xs), .u, .u, .u]) [.lst T] else .ok (.rt (.v (.bl false))) [.lst T] := by
  unfold sb5
  cases b4 <;> simp -dsimp [exs, ev, evs, evP, evC, evT, opn, op2, op1, peek, peeks, truX, truth, biD, cmpD, binD, bindT, bindTs, frzX, frzXs, O.toD, X1.sl, ix_tup, ix_lst, ix_rls, atI_0, atI_1, atI_2, atI_3, gtD, modD, fdivD, intD, addD, subD, mulD, Ev.finish, powD, isiD, D.tyn, isT, evF_lst, evF_cat, evF_rep, evF_sl, evF_bil, evF_bis, evF_bid, evF_rng, evF_dnew, evF_ssi, ex1_ex, ex1_nm, ex1_tp, ex1_par, ex1_ret, ex1_ret0, ex1_ite, ex1_sti, leD, ltD, geD, lenD, isD, isnD, isB, D.items, neD, eqD, eqB, h, ha, hC, hA]
theorem sb_zero {b : Bool} {s3 : Sl} {φ : List O} (he : eqD (.tup xs) (.tup []) = some (.bl b)) : ex1 [F1, F2, F3, F4, F5] (.ite (.cmp .Eq (.slot 1) (.con (.int 0))) [
    .ret (.cmp .Eq (.slot 4) (.tup []))] []) [.v su, .v (.int 0), s2, s3, .v (.tup xs), .u, .u, .u] φ = .ok (.rt (.v (.bl b))) φ := by
  have h0 : eqD (.int 0) (.int 0) = some (.bl true) := rfl
  simp -dsimp [exs, ev, evs, evP, evC, evT, opn, op2, op1, peek, peeks, truX, truth, biD, cmpD, binD, bindT, bindTs, frzX, frzXs, O.toD, X1.sl, ix_tup, ix_lst, ix_rls, atI_0, atI_1, atI_2, atI_3, gtD, modD, fdivD, intD, addD, subD, mulD, Ev.finish, powD, isiD, D.tyn, isT, evF_lst, evF_cat, evF_rep, evF_sl, evF_bil, evF_bis, evF_bid, evF_rng, evF_dnew, evF_ssi, ex1_ex, ex1_nm, ex1_tp, ex1_par, ex1_ret, ex1_ret0, ex1_ite, ex1_sti, leD, ltD, geD, lenD, isD, isnD, isB, D.items, neD, he, h0, sizeLine_eq]
theorem sb_nz {s3 : Sl} {φ : List O} (hn : n ≠ 0) : ex1 [F1, F2, F3, F4, F5] (.ite (.cmp .Eq (.slot 1) (.con (.int 0))) [
    .ret (.cmp .Eq (.slot 4) (.tup []))] []) [.v su, .v (.int n), s2, s3, .v (.tup xs), .u, .u, .u] φ = .ok (.nx [.v su, .v (.int n), s2, s3, .v (.tup xs), .u, .u, .u]) φ := by
  simp -dsimp [exs, ev, evs, evP, evC, evT, opn, op2, op1, peek, peeks, truX, truth, biD, cmpD, binD, bindT, bindTs, frzX, frzXs, O.toD, X1.sl, ix_tup, ix_lst, ix_rls, atI_0, atI_1, atI_2, atI_3, gtD, modD, fdivD, intD, addD, subD, mulD, Ev.finish, powD, isiD, D.tyn, isT, evF_lst, evF_cat, evF_rep, evF_sl, evF_bil, evF_bis, evF_bid, evF_rng, evF_dnew, evF_ssi, ex1_ex, ex1_nm, ex1_tp, ex1_par, ex1_ret, ex1_ret0, ex1_ite, ex1_sti, leD, ltD, geD, lenD, isD, isnD, isB, D.items, neD, eqD, eqB, hn]
theorem sb_tail {L1 L2' L3 : List D} {t1 t2 : Int} {b3 : Bool} {φ : List O} (h3 : evF [F1, F2, F3, F4, F5] C_shows_below_3 [.v su, .v (.int n), s2, .v (.int num), .v (.tup xs), .u, .u, .u] φ = .ok (.lst L3) φ) (e3 : allD [.lst L3] = some (.bl b3))
    (h2 : evF [F1, F2, F3, F4, F5] C_shows_below_2 [.v su, .v (.int n), s2, .v (.int num), .v (.tup xs), .u, .u, .u] φ = .ok (.lst L2') φ) (e2 : sumD [.lst L2'] = some (.int t2)) (h1 : evF [F1, F2, F3, F4, F5] C_shows_below_1 [.v su, .v (.int n), s2, .v (.int num), .v (.tup xs), .u, .u, .u] φ = .ok (.lst L1) φ) (e1 : sumD [.lst L1] = some (.int t1)) :
    exs [F1, F2, F3, F4, F5] [.ite (.or (.not (.bi .all [(.frz C_shows_below_3)])) (.cmp .Lt (.bi .sum [(.frz C_shows_below_2)]) (.slot 1))) [
    .ret (.con (.bl false))] [],
  .ret (.cmp .Eq (.bi .sum [(.frz C_shows_below_1)]) (.slot 3))] [.v su, .v (.int n), s2, .v (.int num), .v (.tup xs), .u, .u, .u] φ = .ok (.rt (.v (.bl (b3 && decide (n ≤ t2) && decide (t1 = num))))) φ := by
  have he : eqD (.int t1) (.int num) = some (.bl (decide (t1 = num))) := rfl
  cases b3 with
  | false =>
    rw [exs_rt (x := .v (.bl false)) (φ1 := φ) (by simp -dsimp [exs, ev, evs, evP, evC, evT, opn, op2, op1, peek, peeks, truX, truth, biD, cmpD, binD, bindT, bindTs, frzX, frzXs, O.toD, X1.sl, ix_tup, ix_lst, ix_rls, atI_0, atI_1, atI_2, atI_3, gtD, modD, fdivD, intD, addD, subD, mulD, Ev.finish, powD, isiD, D.tyn, isT, evF_lst, evF_cat, evF_rep, evF_sl, evF_bil, evF_bis, evF_bid, evF_rng, evF_dnew, evF_ssi, ex1_ex, ex1_nm, ex1_tp, ex1_par, ex1_ret, ex1_ret0, ex1_ite, ex1_sti, leD, ltD, geD, lenD, isD, isnD, isB, D.items, neD, eqD, eqB, h3, e3])]
    rfl
  | true =>
    by_cases hlt : t2 < n
    · have hd : decide (n ≤ t2) = false := by rw [decide_eq_false_iff_not]; omega
      rw [exs_rt (x := .v (.bl false)) (φ1 := φ) (by simp -dsimp [exs, ev, evs, evP, evC, evT, opn, op2, op1, peek, peeks, truX, truth, biD, cmpD, binD, bindT, bindTs, frzX, frzXs, O.toD, X1.sl, ix_tup, ix_lst, ix_rls, atI_0, atI_1, atI_2, atI_3, gtD, modD, fdivD, intD, addD, subD, mulD, Ev.finish, powD, isiD, D.tyn, isT, evF_lst, evF_cat, evF_rep, evF_sl, evF_bil, evF_bis, evF_bid, evF_rng, evF_dnew, evF_ssi, ex1_ex, ex1_nm, ex1_tp, ex1_par, ex1_ret, ex1_ret0, ex1_ite, ex1_sti, leD, ltD, geD, lenD, isD, isnD, isB, D.items, neD, eqD, eqB, h3, e3, h2, e2, hlt])]
      rw [hd]; rfl
    · have hd : decide (n ≤ t2) = true := by rw [decide_eq_true_eq]; omega
      rw [exs_nx (ρ1 := [.v su, .v (.int n), s2, .v (.int num), .v (.tup xs), .u, .u, .u]) (φ1 := φ) (by simp -dsimp [exs, ev, evs, evP, evC, evT, opn, op2, op1, peek, peeks, truX, truth, biD, cmpD, binD, bindT, bindTs, frzX, frzXs, O.toD, X1.sl, ix_tup, ix_lst, ix_rls, atI_0, atI_1, atI_2, atI_3, gtD, modD, fdivD, intD, addD, subD, mulD, Ev.finish, powD, isiD, D.tyn, isT, evF_lst, evF_cat, evF_rep, evF_sl, evF_bil, evF_bis, evF_bid, evF_rng, evF_dnew, evF_ssi, ex1_ex, ex1_nm, ex1_tp, ex1_par, ex1_ret, ex1_ret0, ex1_ite, ex1_sti, leD, ltD, geD, lenD, isD, isnD, isB, D.items, neD, eqD, eqB, h3, e3, h2, e2, hlt])]
      rw [hd]
      simp -dsimp [exs, ev, evs, evP, evC, evT, opn, op2, op1, peek, peeks, truX, truth, biD, cmpD, binD, bindT, bindTs, frzX, frzXs, O.toD, X1.sl, ix_tup, ix_lst, ix_rls, atI_0, atI_1, atI_2, atI_3, gtD, modD, fdivD, intD, addD, subD, mulD, Ev.finish, powD, isiD, D.tyn, isT, evF_lst, evF_cat, evF_rep, evF_sl, evF_bil, evF_bis, evF_bid, evF_rng, evF_dnew, evF_ssi, ex1_ex, ex1_nm, ex1_tp, ex1_par, ex1_ret, ex1_ret0, ex1_ite, ex1_sti, leD, ltD, geD, lenD, isD, isnD, isB, D.items, neD, h1, e1, he]
end
end K38
namespace K38
open PySem Ev
def leW : D → Option D
  | .wtp [.int a, .int b] => some (.bl (decide (a ≤ b)))
  | _ => none
theorem adjLe_zip : ∀ ns : List Int, ∃ bs : List Bool, (zipL (ns.map D.int) (ns.map D.int).tail).filterMap leW = bs.map D.bl ∧ bs.all id = adjLe ns
  | [] => ⟨[], rfl, rfl⟩
  | [x] => ⟨[], rfl, rfl⟩
  | x :: y :: r => by
    obtain ⟨bs, e, hb⟩ := adjLe_zip (y :: r)
    refine ⟨decide (x ≤ y) :: bs, ?_, by simp -dsimp only [List.all_cons, hb, adjLe]; rfl⟩
    show .bl (decide (x ≤ y)) :: (zipL ((y :: r).map D.int) ((y :: r).map D.int).tail).filterMap leW = _
    rw [e]; rfl
theorem zip_comp {G : List FSem} {ns : List Int} {s0 s1 s2 s3 s5 : Sl} {φ : List O} (hl : ns.length ≤ 1000) : ∃ bs : List Bool, evF G C_shows_below_3 [s0, s1, s2, s3, .v (.tup (ns.map D.int)), s5, .u, .u] φ = .ok (.lst (bs.map D.bl)) φ ∧ bs.all id = adjLe ns := by
  obtain ⟨bs, e, hb⟩ := adjLe_zip ns
  refine ⟨bs, ?_, hb⟩
  have hI : evI G (.zip (.slot 4) (.sl (.slot 4) (some (.con (.int 1))) none)) [s0, s1, s2, s3, .v (.tup (ns.map D.int)), s5, .u, .u] φ = .ok ⟨zipL (ns.map D.int) (ns.map D.int).tail, true, []⟩ φ := by
    have h : slD (.tup (ns.map D.int)) (some 1) none = some (.tup (ns.map D.int).tail) := by
      show some (D.tup (cut _ (some ((1 : Nat) : Int)) none)) = _
      rw [cut_fr, List.drop_one]
    generalize ns.map D.int = xs at *
    simp -dsimp [exs, ev, evs, evP, evC, evT, opn, op2, op1, peek, peeks, truX, truth, biD, cmpD, binD, bindT, bindTs, frzX, frzXs, O.toD, X1.sl, ix_tup, ix_lst, ix_rls, atI_0, atI_1, atI_2, atI_3, gtD, modD, fdivD, intD, addD, subD, mulD, Ev.finish, powD, isiD, D.tyn, isT, evF_lst, evF_cat, evF_rep, evF_sl, evF_bil, evF_bis, evF_bid, evF_rng, evF_dnew, evF_ssi, ex1_ex, ex1_nm, ex1_tp, ex1_par, ex1_ret, ex1_ret0, ex1_ite, ex1_sti, leD, ltD, geD, lenD, isD, isnD, isB, D.items, neD, eqD, eqB, evI, h, walkX, D.seqs]
  unfold C_shows_below_3
  rw [evF_comp2 hI (g := leW) (by have := zipL_len (ns.map D.int) (ns.map D.int).tail; rw [sizeLine_eq]; simp -dsimp only [List.length_tail, List.length_map] at *; omega) (by
    intro d hd
    obtain ⟨u, v, rfl, hu, hv⟩ := zipL_mem hd
    obtain ⟨a, _, rfl⟩ := List.mem_map.mp hu
    obtain ⟨c, _, rfl⟩ := List.mem_map.mp (List.mem_of_mem_tail hv)
    simp -dsimp [exs, ev, evs, evP, evC, evT, opn, op2, op1, peek, peeks, truX, truth, biD, cmpD, binD, bindT, bindTs, frzX, frzXs, O.toD, X1.sl, ix_tup, ix_lst, ix_rls, atI_0, atI_1, atI_2, atI_3, gtD, modD, fdivD, intD, addD, subD, mulD, Ev.finish, powD, isiD, D.tyn, isT, evF_lst, evF_cat, evF_rep, evF_sl, evF_bil, evF_bis, evF_bid, evF_rng, evF_dnew, evF_ssi, ex1_ex, ex1_nm, ex1_tp, ex1_par, ex1_ret, ex1_ret0, ex1_ite, ex1_sti, leD, ltD, geD, lenD, isD, isnD, isB, D.items, neD, eqD, eqB, one1, wipeR, leW])]
  show R.ok (O.lst ((zipL (ns.map D.int) (ns.map D.int).tail).filterMap leW)) _ = _
  rw [e]; rfl
theorem shows_ok {sm : Sm} (h : VSm sm) {n : Nat} (hn : n ≤ 60) {v : D} (hv : Lk v) : ∃ ψ, exs [F_is_between, F_least_rows, F_is_integer, F_check_days, F_check_sums] il_shows_below [.v (.tup (sm.map prD)), .v (.int n), .v v, .u, .u, .u, .u, .u] [] = .ok (.rt (.v (.bl (toldB sm n (L sm n) v)))) ψ := by
  have h1 : ∀ φ, callX F_least_rows [.v (.tup (sm.map prD)), .v (.int n)] φ = .ok (.h φ.length) (φ ++ [.lst ((tabG (rowsI sm) n).map prD)]) := fun φ => callX_t2n (least_rows_ok h hn)
  have h2 := check_sums_call h
  have h3 := check_days_call (i := n) (l := 0) (by omega) (by omega)
  have hat : L2.atI ((tabG (rowsI sm) n).map prD) (n : Int) = some (.tup [.int (L sm n), .int (entG (rowsI sm) n).2]) := by
    rw [at_prs (by omega) (by rw [tabG_len]; omega), Int.toNat_natCast, tabG_getD (Nat.le_refl _)]
  unfold il_shows_below
  rw [exs_nx (sb_c1 h2), exs_nx (sb_c2 h3)]
  show ∃ ψ, exs [F_is_between, F_least_rows, F_is_integer, F_check_days, F_check_sums] (sb3 :: .asg (.tp [(.nm 3), (.nm 4)]) (.slot 2) :: sb5 :: _ :: _) _ _ = _
  by_cases hp : ∃ a b, v = .tup [a, b]
  · obtain ⟨a, r, rfl⟩ := hp
    have ga : Good a := Good.tupI hv.g a (by simp -dsimp [exs, ev, evs, evP, evC, evT, opn, op2, op1, peek, peeks, truX, truth, biD, cmpD, binD, bindT, bindTs, frzX, frzXs, O.toD, X1.sl, ix_tup, ix_lst, ix_rls, atI_0, atI_1, atI_2, atI_3, gtD, modD, fdivD, intD, addD, subD, mulD, Ev.finish, powD, isiD, D.tyn, isT, evF_lst, evF_cat, evF_rep, evF_sl, evF_bil, evF_bis, evF_bid, evF_rng, evF_dnew, evF_ssi, ex1_ex, ex1_nm, ex1_tp, ex1_par, ex1_ret, ex1_ret0, ex1_ite, ex1_sti, leD, ltD, geD, lenD, isD, isnD, isB, D.items, neD, eqD, eqB])
    have gr : Good r := Good.tupI hv.g r (by simp -dsimp [exs, ev, evs, evP, evC, evT, opn, op2, op1, peek, peeks, truX, truth, biD, cmpD, binD, bindT, bindTs, frzX, frzXs, O.toD, X1.sl, ix_tup, ix_lst, ix_rls, atI_0, atI_1, atI_2, atI_3, gtD, modD, fdivD, intD, addD, subD, mulD, Ev.finish, powD, isiD, D.tyn, isT, evF_lst, evF_cat, evF_rep, evF_sl, evF_bil, evF_bis, evF_bid, evF_rng, evF_dnew, evF_ssi, ex1_ex, ex1_nm, ex1_tp, ex1_par, ex1_ret, ex1_ret0, ex1_ite, ex1_sti, leD, ltD, geD, lenD, isD, isnD, isB, D.items, neD, eqD, eqB])
    obtain ⟨_, hsr⟩ := hv.p a r rfl
    by_cases hai : ∃ x, a = .int x
    · obtain ⟨x, rfl⟩ := hai
      have hi : ∀ φ, callX F_is_integer [.v (.int x)] φ = .ok (.v (.bl true)) φ := fun φ => is_integer_call ga φ
      by_cases hr : ∃ xs, r = .tup xs
      · obtain ⟨xs, rfl⟩ := hr
        rw [exs_nx (sb_on hi), exs_nx sb_tp]
        by_cases hx : x = L sm n
        · subst hx
          have hl : xs.length ≤ 100 := hsr xs rfl
          have hsl : (sm.map prD).length = sm.length := List.length_map _
          have hC := btw_comp (F := F_is_between) (G := [F_least_rows, F_is_integer, F_check_days, F_check_sums]) (S := sm.map prD) (xs := xs) (s1 := .v (.int n)) (s2 := .v (.tup [.int (L sm n), .tup xs])) (s3 := .v (.int (L sm n))) (s5 := .u) (rest := [.u, .u]) (φ := [.lst ((tabG (rowsI sm) n).map prD)]) (by rw [hsl]; have := h.len; omega) (by omega) (fun d hd φ => is_between_call (Good.tupI gr d hd) 0 _ φ)
          have hall := allD_bls (xs.map fun d => btw d 0 (((sm.map prD).length : Int) - 1))
          rw [List.all_map] at hall
          rw [hsl] at hC hall
          rw [toldB_eq]
          cases hb : xs.all (fun d => btw d 0 ((sm.length : Int) - 1)) with
          | false =>
            have hall' : allD [.lst ((xs.map fun d => btw d 0 ((sm.length : Int) - 1)).map D.bl)] = some (.bl false) := by
              rw [hall]; exact congrArg (fun b => some (D.bl b)) hb
            rw [exs_rt (sb_all h1 hat hC hall')]
            unfold rowB
            rw [hb]; exact ⟨_, rfl⟩
          | true =>
            have hall' : allD [.lst ((xs.map fun d => btw d 0 ((sm.length : Int) - 1)).map D.bl)] = some (.bl true) := by
              rw [hall]; exact congrArg (fun b => some (D.bl b)) hb
            rw [exs_nx (sb_all h1 hat hC hall')]
            obtain ⟨ns, rfl, hns⟩ := all_ints hb
            rw [List.length_map] at hl
            by_cases h0 : n = 0
            · subst h0
              refine ⟨[.lst ((tabG (rowsI sm) 0).map prD)], (exs_rt (sb_zero (eqD_nil (by omega)))).trans ?_⟩
              unfold rowB
              rw [hb]; rfl
            · have hn0 : (n : Int) ≠ 0 := by omega
              rw [exs_nx (sb_nz hn0)]
              obtain ⟨bs, hz, hbs⟩ := zip_comp (G := [F_is_between, F_least_rows, F_is_integer, F_check_days, F_check_sums]) (ns := ns) (s0 := .v (.tup (sm.map prD))) (s1 := .v (.int n)) (s2 := .v (.tup [.int (L sm n), .tup (ns.map D.int)])) (s3 := .v (.int (L sm n))) (s5 := .u) (φ := [.lst ((tabG (rowsI sm) n).map prD)]) (by omega)
              refine ⟨[.lst ((tabG (rowsI sm) n).map prD)], (sb_tail hz (allD_bls bs) (sum_comp0 (by omega) hns) (sumD_ints _) (sum_comp1 (by omega) hns) (sumD_ints _)).trans ?_⟩
              unfold rowB
              rw [hb, map_iv, if_neg hn0, hbs]; rfl
        · have : toldB sm n (L sm n) (.tup [.int x, .tup xs]) = false := toldB_ne fun e => hx (by cases e; rfl)
          rw [this]
          exact ⟨_, exs_rt (sb_num h1 hat hx)⟩
      · have hr' : ∀ xs, r ≠ .tup xs := fun xs e => hr ⟨xs, e⟩
        rw [toldB_nr hr']
        exact ⟨_, exs_rt (sb_row gr hr' hi)⟩
    · have hi : ∀ φ, callX F_is_integer [.v a] φ = .ok (.v (.bl false)) φ := fun φ => by
        rw [is_integer_call ga φ]
        have : isI a = false := by
          cases a with
          | int x => exact absurd ⟨x, rfl⟩ hai
          | _ => rfl
        rw [this]
      rw [toldB_ne fun e => hai ⟨_, e⟩]
      exact ⟨_, exs_rt (sb_int hi)⟩
  · have hp' : ∀ a b, v ≠ .tup [a, b] := fun a b e => hp ⟨a, b, e⟩
    rw [toldB_no hp']
    exact ⟨_, exs_rt (sb_shape hv.g hv.s hp')⟩
theorem shows_call {sm : Sm} (h : VSm sm) {n : Nat} (hn : n ≤ 60) {v : D} (hv : Lk v) (φ : List O) : callX F_shows_below [.v (.tup (sm.map prD)), .v (.int n), .v v] φ = .ok (.v (.bl (toldB sm n (L sm n) v))) φ := by
  obtain ⟨ψ, e⟩ := shows_ok h hn hv
  exact callX_a3 (evFn_v e ⟨rfl, by decide⟩ rfl)
/-! ### what is told is right -/
theorem below_right {sm : Sm} (h : VSm sm) {n : Nat} {r : List Int} (h1 : ∀ a ∈ r, 0 ≤ a ∧ a < sm.length) (h2 : cstS sm r = L sm n) (h3 : n ≤ ownS sm r) (h4 : r.length ≤ n) : toldB sm n (L sm n) (.tup [.int (L sm n), .tup ((srt r).map D.int)]) = true := by
  rw [toldB_eq]
  unfold rowB
  have hp := srt_perm r
  have ha : ((srt r).map D.int).all (fun d => btw d 0 ((sm.length : Int) - 1)) = true := by
    rw [List.all_eq_true]
    intro d hd
    obtain ⟨a, ha, rfl⟩ := List.mem_map.mp hd
    have := h1 a (hp.mem_iff.mp ha)
    simp -dsimp [exs, ev, evs, evP, evC, evT, opn, op2, op1, peek, peeks, truX, truth, biD, cmpD, binD, bindT, bindTs, frzX, frzXs, O.toD, X1.sl, ix_tup, ix_lst, ix_rls, atI_0, atI_1, atI_2, atI_3, gtD, modD, fdivD, intD, addD, subD, mulD, Ev.finish, powD, isiD, D.tyn, isT, evF_lst, evF_cat, evF_rep, evF_sl, evF_bil, evF_bis, evF_bid, evF_rng, evF_dnew, evF_ssi, ex1_ex, ex1_nm, ex1_tp, ex1_par, ex1_ret, ex1_ret0, ex1_ite, ex1_sti, leD, ltD, geD, lenD, isD, isnD, isB, D.items, neD, eqD, eqB, btw]; omega
  rw [ha, map_iv, Bool.true_and]
  by_cases h0 : (n : Int) = 0
  · rw [if_pos h0]
    have : r = [] := List.eq_nil_of_length_eq_zero (by omega)
    subst this
    have e0 : srt [] = [] := List.eq_nil_of_length_eq_zero (srt_len [])
    rw [e0]; rfl
  · rw [if_neg h0]
    have e1 : adjLe (srt r) = true := (adjLe_iff _).mpr (srt_sorted r)
    have e2 : decide ((n : Int) ≤ ownS sm (srt r)) = true := by rw [ownS_perm hp, decide_eq_true_eq]; exact h3
    have e3 : decide (cstS sm (srt r) = L sm n) = true := by rw [cstS_perm hp, decide_eq_true_eq]; exact h2
    rw [e1, e2, e3]; rfl
end K38
namespace K38
open PySem Ev
section
variable {Fb Fl Ff Ft Fs Fw Fi Fn Fe Fu Fo : FSem} {su : D} {o o1 o2 : O} {LT : List D} {q : List O} {n n2 m x1 x2 x3 r1 r2 lap : Int} {R R1 R2 R3 : D} {s3 s5 s6 s7 s8 s11 s12 s13 s14 : Sl}
theorem rb1 (e1 : callX Ft [.h 0, .v (.int 25)] (o :: .lst LT :: q) = .ok (.v (.int r1)) (o1 :: .lst LT :: q)) (e2 : callX Ft [.h 0, .v (.int 25)] (o1 :: .lst LT :: q) = .ok (.v (.int r2)) (o2 :: .lst LT :: q)) :
    ex1 [Fb, Fl, Ff, Ft, Fs, Fw, Fi, Fn, Fe, Fu, Fo] (.par [11, 12] [(.bi .int [(.call 3 [(.slot 0), (.con (.int 25))])]), (.bi .int [(.call 3 [(.slot 0), (.con (.int 25))])])]) [.h 0, .v su, .h 1, s3, .u, s5, s6, s7, s8, .u, .u, s11, s12, s13, s14, .u, .u, .u] (o :: .lst LT :: q) = .ok (.nx [.h 0, .v su, .h 1, s3, .u, s5, s6, s7, s8, .u, .u, .v (.int r1), .v (.int r2), s13, s14, .u, .u, .u]) (o2 :: .lst LT :: q) := by
  simp -dsimp [exs, ev, evs, evP, evC, evT, opn, op2, op1, peek, peeks, truX, truth, biD, cmpD, binD, bindT, bindTs, frzX, frzXs, O.toD, X1.sl, ix_tup, ix_lst, ix_rls, atI_0, atI_1, atI_2, atI_3, gtD, modD, fdivD, intD, addD, subD, mulD, Ev.finish, powD, isiD, D.tyn, isT, evF_lst, evF_cat, evF_rep, evF_sl, evF_bil, evF_bis, evF_bid, evF_rng, evF_dnew, evF_ssi, ex1_ex, ex1_nm, ex1_tp, ex1_par, ex1_ret, ex1_ret0, ex1_ite, ex1_sti, leD, ltD, geD, lenD, isD, isnD, isB, D.items, neD, eqD, eqB, e1, e2]
theorem rb2 (eb : ∀ φ, callX Fb [.v su, .v (.int n)] φ = .ok (.v (.tup [.int m, R])) φ) :
    ex1 [Fb, Fl, Ff, Ft, Fs, Fw, Fi, Fn, Fe, Fu, Fo] (.asg (.nm 5) (.call 0 [(.slot 1), (.slot 11)])) [.h 0, .v su, .h 1, s3, .u, s5, s6, s7, s8, .u, .u, .v (.int n), .v (.int n2), s13, s14, .u, .u, .u] (o :: .lst LT :: q) = .ok (.nx [.h 0, .v su, .h 1, s3, .u, .v (.tup [.int m, R]), s6, s7, s8, .u, .u, .v (.int n), .v (.int n2), s13, s14, .u, .u, .u]) (o :: .lst LT :: q) := by
  simp -dsimp [exs, ev, evs, evP, evC, evT, opn, op2, op1, peek, peeks, truX, truth, biD, cmpD, binD, bindT, bindTs, frzX, frzXs, O.toD, X1.sl, ix_tup, ix_lst, ix_rls, atI_0, atI_1, atI_2, atI_3, gtD, modD, fdivD, intD, addD, subD, mulD, Ev.finish, powD, isiD, D.tyn, isT, evF_lst, evF_cat, evF_rep, evF_sl, evF_bil, evF_bis, evF_bid, evF_rng, evF_dnew, evF_ssi, ex1_ex, ex1_nm, ex1_tp, ex1_par, ex1_ret, ex1_ret0, ex1_ite, ex1_sti, leD, ltD, geD, lenD, isD, isnD, isB, D.items, neD, eqD, eqB, eb]
theorem rb3 (ha : L2.atI LT n = some (.int m)) (ei : ∀ φ, callX Fi [.v su, .v (.int n), .v (.int m), .v (.tup [.int m, R])] φ = .ok (.v (.bl true)) φ) :
    ex1 [Fb, Fl, Ff, Ft, Fs, Fw, Fi, Fn, Fe, Fu, Fo] (.ite (.not (.call 6 [(.slot 1), (.slot 11), (.ix (.slot 2) (.slot 11)), (.slot 5)])) [
      .ret (.con (.bl false))] []) [.h 0, .v su, .h 1, s3, .u, .v (.tup [.int m, R]), s6, s7, s8, .u, .u, .v (.int n), .v (.int n2), s13, s14, .u, .u, .u] (o :: .lst LT :: q) = .ok (.nx [.h 0, .v su, .h 1, s3, .u, .v (.tup [.int m, R]), s6, s7, s8, .u, .u, .v (.int n), .v (.int n2), s13, s14, .u, .u, .u]) (o :: .lst LT :: q) := by
  simp -dsimp [exs, ev, evs, evP, evC, evT, opn, op2, op1, peek, peeks, truX, truth, biD, cmpD, binD, bindT, bindTs, frzX, frzXs, O.toD, X1.sl, ix_tup, ix_lst, ix_rls, atI_0, atI_1, atI_2, atI_3, gtD, modD, fdivD, intD, addD, subD, mulD, Ev.finish, powD, isiD, D.tyn, isT, evF_lst, evF_cat, evF_rep, evF_sl, evF_bil, evF_bis, evF_bid, evF_rng, evF_dnew, evF_ssi, ex1_ex, ex1_nm, ex1_tp, ex1_par, ex1_ret, ex1_ret0, ex1_ite, ex1_sti, leD, ltD, geD, lenD, isD, isnD, isB, D.items, neD, eqD, eqB, ha, ei]
theorem rb4 (e1 : ∀ φ, callX Fb [.v su, .v (.int (n + 1))] φ = .ok (.v (.tup [.int x1, R1])) φ) (e2 : ∀ φ, callX Fb [.v su, .v (.int (n + n2))] φ = .ok (.v (.tup [.int x2, R2])) φ) (e3 : ∀ φ, callX Fb [.v su, .v (.int n2)] φ = .ok (.v (.tup [.int x3, R3])) φ) (h1 : ¬ x1 < m) (h2 : ¬ m + x3 < x2) :
    ex1 [Fb, Fl, Ff, Ft, Fs, Fw, Fi, Fn, Fe, Fu, Fo] (.ite (.or (.cmp .Lt (.ix (.call 0 [(.slot 1), (.bin .Add (.slot 11) (.con (.int 1)))]) (.con (.int 0))) (.ix (.slot 5) (.con (.int 0)))) (.cmp .Gt (.ix (.call 0 [(.slot 1), (.bin .Add (.slot 11) (.slot 12))]) (.con (.int 0))) (.bin .Add (.ix (.slot 5) (.con (.int 0))) (.ix (.call 0 [(.slot 1), (.slot 12)]) (.con (.int 0)))))) [
      .ret (.con (.bl false))] []) [.h 0, .v su, .h 1, s3, .u, .v (.tup [.int m, R]), s6, s7, s8, .u, .u, .v (.int n), .v (.int n2), s13, s14, .u, .u, .u] (o :: .lst LT :: q) = .ok (.nx [.h 0, .v su, .h 1, s3, .u, .v (.tup [.int m, R]), s6, s7, s8, .u, .u, .v (.int n), .v (.int n2), s13, s14, .u, .u, .u]) (o :: .lst LT :: q) := by
  simp -dsimp [exs, ev, evs, evP, evC, evT, opn, op2, op1, peek, peeks, truX, truth, biD, cmpD, binD, bindT, bindTs, frzX, frzXs, O.toD, X1.sl, ix_tup, ix_lst, ix_rls, atI_0, atI_1, atI_2, atI_3, gtD, modD, fdivD, intD, addD, subD, mulD, Ev.finish, powD, isiD, D.tyn, isT, evF_lst, evF_cat, evF_rep, evF_sl, evF_bil, evF_bis, evF_bid, evF_rng, evF_dnew, evF_ssi, ex1_ex, ex1_nm, ex1_tp, ex1_par, ex1_ret, ex1_ret0, ex1_ite, ex1_sti, leD, ltD, geD, lenD, isD, isnD, isB, D.items, neD, eqD, eqB, e1, e2, e3, h1, h2]
variable {rs ws vs : List D}
def vs0 (m : Int) (rs : List D) : List D := [.tup [.int m, .tup rs], .tup [.tup rs, .int m], .lst [.int m, .tup rs], .tup [.int (m + 1), .tup rs], .tup [.int m, .tup rs.reverse], .non]
theorem rb5 : ex1 [Fb, Fl, Ff, Ft, Fs, Fw, Fi, Fn, Fe, Fu, Fo] (.asg (.nm 6) (.new (.lst [(.slot 5), (.rev (.slot 5)), (.frz (.bi .list (.slot 5))), (.tup [(.bin .Add (.ix (.slot 5) (.con (.int 0))) (.con (.int 1))), (.ix (.slot 5) (.con (.int 1)))]), (.tup [(.ix (.slot 5) (.con (.int 0))), (.rev (.ix (.slot 5) (.con (.int 1))))]), (.con .non)]))) [.h 0, .v su, .h 1, s3, .u, .v (.tup [.int m, .tup rs]), s6, s7, s8, .u, .u, .v (.int n), .v (.int n2), s13, s14, .u, .u, .u] (o :: .lst LT :: q) = .ok (.nx [.h 0, .v su, .h 1, s3, .u, .v (.tup [.int m, .tup rs]), .h (q.length + 2), s7, s8, .u, .u, .v (.int n), .v (.int n2), s13, s14, .u, .u, .u]) (o :: .lst LT :: (q ++ [.lst (vs0 m rs)])) := by
  simp -dsimp [exs, ev, evs, evP, evC, evT, opn, op2, op1, peek, peeks, truX, truth, biD, cmpD, binD, bindT, bindTs, frzX, frzXs, O.toD, X1.sl, ix_tup, ix_lst, ix_rls, atI_0, atI_1, atI_2, atI_3, gtD, modD, fdivD, intD, addD, subD, mulD, Ev.finish, powD, isiD, D.tyn, isT, evF_lst, evF_cat, evF_rep, evF_sl, evF_bil, evF_bis, evF_bid, evF_rng, evF_dnew, evF_ssi, ex1_ex, ex1_nm, ex1_tp, ex1_par, ex1_ret, ex1_ret0, ex1_ite, ex1_sti, leD, ltD, geD, lenD, isD, isnD, isB, D.items, neD, eqD, eqB, rvD, listF, vs0, sizeLine_eq]
theorem rb6 (hs : slD (.tup rs) (some 1) none = some (.tup ws)) (hv : vs.length < 1000) : ex1 [Fb, Fl, Ff, Ft, Fs, Fw, Fi, Fn, Fe, Fu, Fo] (.app 6 (.tup [(.ix (.slot 5) (.con (.int 0))), (.sl (.ix (.slot 5) (.con (.int 1))) (some (.con (.int 1))) none)])) [.h 0, .v su, .h 1, s3, .u, .v (.tup [.int m, .tup rs]), .h (q.length + 2), s7, s8, .u, .u, .v (.int n), .v (.int n2), s13, s14, .u, .u, .u] (o :: .lst LT :: (q ++ [.lst vs])) = .ok (.nx [.h 0, .v su, .h 1, s3, .u, .v (.tup [.int m, .tup rs]), .h (q.length + 2), s7, s8, .u, .u, .v (.int n), .v (.int n2), s13, s14, .u, .u, .u]) (o :: .lst LT :: (q ++ [.lst (vs ++ [.tup [.int m, .tup ws]])])) := by
  have hl : vs.length < 16777216 := by omega
  rw [ex1_app (i := 6) (j := q.length + 2) (ds := vs) rfl (by simp -dsimp [exs, ev, evs, evP, evC, evT, opn, op2, op1, peek, peeks, truX, truth, biD, cmpD, binD, bindT, bindTs, frzX, frzXs, O.toD, X1.sl, ix_tup, ix_lst, ix_rls, atI_0, atI_1, atI_2, atI_3, gtD, modD, fdivD, intD, addD, subD, mulD, Ev.finish, powD, isiD, D.tyn, isT, evF_lst, evF_cat, evF_rep, evF_sl, evF_bil, evF_bis, evF_bid, evF_rng, evF_dnew, evF_ssi, ex1_ex, ex1_nm, ex1_tp, ex1_par, ex1_ret, ex1_ret0, ex1_ite, ex1_sti, leD, ltD, geD, lenD, isD, isnD, isB, D.items, neD, eqD, eqB])]
  simp -dsimp [exs, ev, evs, evP, evC, evT, opn, op2, op1, peek, peeks, truX, truth, biD, cmpD, binD, bindT, bindTs, frzX, frzXs, O.toD, X1.sl, ix_tup, ix_lst, ix_rls, atI_0, atI_1, atI_2, atI_3, gtD, modD, fdivD, intD, addD, subD, mulD, Ev.finish, powD, isiD, D.tyn, isT, evF_lst, evF_cat, evF_rep, evF_sl, evF_bil, evF_bis, evF_bid, evF_rng, evF_dnew, evF_ssi, ex1_ex, ex1_nm, ex1_tp, ex1_par, ex1_ret, ex1_ret0, ex1_ite, ex1_sti, leD, ltD, geD, lenD, isD, isnD, isB, D.items, neD, eqD, eqB, hs, sizeLine_eq, hl]
theorem rb7 {xs : List D} {row bd : D} {W : List O} (hs : sortedF [.lst xs] = some (.lst ws)) (ht : tupleD [.lst ws] = some row) (hC : evF [Fb, Fl, Ff, Ft, Fs, Fw, Fi, Fn, Fe, Fu, Fo] C_law_right_3 [.h 0, .v su, .h 1, s3, .u, .v (.tup [.int m, .tup rs]), .h (q.length + 2), .v (.int lap), s8, .u, .u, .v (.int n), .v (.int n2), s13, s14, .u, .u, .u] (o :: .lst LT :: (q ++ [.lst vs])) = .ok (.lst xs) (o1 :: .lst LT :: (q ++ [.lst vs])))
    (hB : callX Fn [.h 0, .v (.tup [.int m, .tup rs])] (o1 :: .lst LT :: (q ++ [.lst vs])) = .ok (.v bd) (o2 :: .lst LT :: (q ++ [.lst vs]))) (hv : vs.length < 1000) : turnF [Fb, Fl, Ff, Ft, Fs, Fw, Fi, Fn, Fe, Fu, Fo] (.nm 7) B_law_right_2 (.int lap) [.h 0, .v su, .h 1, s3, .u, .v (.tup [.int m, .tup rs]), .h (q.length + 2), s7, s8, .u, .u, .v (.int n), .v (.int n2), s13, s14, .u, .u, .u] (o :: .lst LT :: (q ++ [.lst vs])) = .ok (.nx [.h 0, .v su, .h 1, s3, .u, .v (.tup [.int m, .tup rs]), .h (q.length + 2), .v (.int lap), s8, .u, .u, .v (.int n), .v (.int n2), .v row, s14, .u, .u, .u]) (o2 :: .lst LT :: (q ++ [.lst (vs ++ [.tup [.int m, row], bd])])) := by
  have hl : vs.length + 2 ≤ 16777216 := by omega
  unfold turnF
  simp -dsimp only [bindT]
  rw [if_pos (by simp -dsimp [exs, ev, evs, evP, evC, evT, opn, op2, op1, peek, peeks, truX, truth, biD, cmpD, binD, bindT, bindTs, frzX, frzXs, O.toD, X1.sl, ix_tup, ix_lst, ix_rls, atI_0, atI_1, atI_2, atI_3, gtD, modD, fdivD, intD, addD, subD, mulD, Ev.finish, powD, isiD, D.tyn, isT, evF_lst, evF_cat, evF_rep, evF_sl, evF_bil, evF_bis, evF_bid, evF_rng, evF_dnew, evF_ssi, ex1_ex, ex1_nm, ex1_tp, ex1_par, ex1_ret, ex1_ret0, ex1_ite, ex1_sti, leD, ltD, geD, lenD, isD, isnD, isB, D.items, neD, eqD, eqB])]
  show exs _ _ [.h 0, .v su, .h 1, s3, .u, .v (.tup [.int m, .tup rs]), .h (q.length + 2), .v (.int lap), s8, .u, .u, .v (.int n), .v (.int n2), s13, s14, .u, .u, .u] _ = _
  unfold B_law_right_2
  rw [exs_nx (ρ1 := [.h 0, .v su, .h 1, s3, .u, .v (.tup [.int m, .tup rs]), .h (q.length + 2), .v (.int lap), s8, .u, .u, .v (.int n), .v (.int n2), .v row, s14, .u, .u, .u]) (φ1 := (o1 :: .lst LT :: (q ++ [.lst vs]))) (by simp -dsimp [exs, ev, evs, evP, evC, evT, opn, op2, op1, peek, peeks, truX, truth, biD, cmpD, binD, bindT, bindTs, frzX, frzXs, O.toD, X1.sl, ix_tup, ix_lst, ix_rls, atI_0, atI_1, atI_2, atI_3, gtD, modD, fdivD, intD, addD, subD, mulD, Ev.finish, powD, isiD, D.tyn, isT, evF_lst, evF_cat, evF_rep, evF_sl, evF_bil, evF_bis, evF_bid, evF_rng, evF_dnew, evF_ssi, ex1_ex, ex1_nm, ex1_tp, ex1_par, ex1_ret, ex1_ret0, ex1_ite, ex1_sti, leD, ltD, geD, lenD, isD, isnD, isB, D.items, neD, eqD, eqB, hC, hs, ht])]
  rw [exs_nx (ρ1 := [.h 0, .v su, .h 1, s3, .u, .v (.tup [.int m, .tup rs]), .h (q.length + 2), .v (.int lap), s8, .u, .u, .v (.int n), .v (.int n2), .v row, s14, .u, .u, .u]) (φ1 := (o2 :: .lst LT :: (q ++ [.lst (vs ++ [.tup [.int m, row], bd])]))) (by
    rw [ex1_ext (i := 6) (j := q.length + 2) (ds := vs) rfl (by simp -dsimp [exs, ev, evs, evP, evC, evT, opn, op2, op1, peek, peeks, truX, truth, biD, cmpD, binD, bindT, bindTs, frzX, frzXs, O.toD, X1.sl, ix_tup, ix_lst, ix_rls, atI_0, atI_1, atI_2, atI_3, gtD, modD, fdivD, intD, addD, subD, mulD, Ev.finish, powD, isiD, D.tyn, isT, evF_lst, evF_cat, evF_rep, evF_sl, evF_bil, evF_bis, evF_bid, evF_rng, evF_dnew, evF_ssi, ex1_ex, ex1_nm, ex1_tp, ex1_par, ex1_ret, ex1_ret0, ex1_ite, ex1_sti, leD, ltD, geD, lenD, isD, isnD, isB, D.items, neD, eqD, eqB])]
    simp -dsimp [exs, ev, evs, evP, evC, evT, opn, op2, op1, peek, peeks, truX, truth, biD, cmpD, binD, bindT, bindTs, frzX, frzXs, O.toD, X1.sl, ix_tup, ix_lst, ix_rls, atI_0, atI_1, atI_2, atI_3, gtD, modD, fdivD, intD, addD, subD, mulD, Ev.finish, powD, isiD, D.tyn, isT, evF_lst, evF_cat, evF_rep, evF_sl, evF_bil, evF_bis, evF_bid, evF_rng, evF_dnew, evF_ssi, ex1_ex, ex1_nm, ex1_tp, ex1_par, ex1_ret, ex1_ret0, ex1_ite, ex1_sti, leD, ltD, geD, lenD, isD, isnD, isB, D.items, neD, eqD, eqB, hB, sizeLine_eq, hl])]
  rfl
theorem rb8 {v : D} {b : Bool} {φ : List O} {s5 s6 s12 : Sl} (hφ : φ[1]? = some (.lst LT)) (ha : L2.atI LT n = some (.int m)) (hi : ∀ φ, callX Fi [.v su, .v (.int n), .v (.int m), .v v] φ = .ok (.v (.bl b)) φ) (hw : ∀ φ, callX Fw [.v su, .v (.int n), .v v] φ = .ok (.v (.bl b)) φ) :
    turnF [Fb, Fl, Ff, Ft, Fs, Fw, Fi, Fn, Fe, Fu, Fo] (.nm 8) B_law_right_1 v [.h 0, .v su, .h 1, s3, .u, s5, s6, s7, s8, .u, .u, .v (.int n), s12, s13, s14, .u, .u, .u] φ = .ok (.nx [.h 0, .v su, .h 1, s3, .u, s5, s6, s7, .v v, .u, .u, .v (.int n), s12, s13, .v (.bl b), .u, .u, .u]) φ := by
  obtain ⟨st, hst⟩ := rep_bl b
  have hne : neD (.str st) (.str st) = some (.bl false) := by simp -dsimp [exs, ev, evs, evP, evC, evT, opn, op2, op1, peek, peeks, truX, truth, biD, cmpD, binD, bindT, bindTs, frzX, frzXs, O.toD, X1.sl, ix_tup, ix_lst, ix_rls, atI_0, atI_1, atI_2, atI_3, gtD, modD, fdivD, intD, addD, subD, mulD, Ev.finish, powD, isiD, D.tyn, isT, evF_lst, evF_cat, evF_rep, evF_sl, evF_bil, evF_bis, evF_bid, evF_rng, evF_dnew, evF_ssi, ex1_ex, ex1_nm, ex1_tp, ex1_par, ex1_ret, ex1_ret0, ex1_ite, ex1_sti, leD, ltD, geD, lenD, isD, isnD, isB, D.items, neD, eqD, eqB]
  unfold turnF
  simp -dsimp only [bindT]
  rw [if_pos (by simp -dsimp [exs, ev, evs, evP, evC, evT, opn, op2, op1, peek, peeks, truX, truth, biD, cmpD, binD, bindT, bindTs, frzX, frzXs, O.toD, X1.sl, ix_tup, ix_lst, ix_rls, atI_0, atI_1, atI_2, atI_3, gtD, modD, fdivD, intD, addD, subD, mulD, Ev.finish, powD, isiD, D.tyn, isT, evF_lst, evF_cat, evF_rep, evF_sl, evF_bil, evF_bis, evF_bid, evF_rng, evF_dnew, evF_ssi, ex1_ex, ex1_nm, ex1_tp, ex1_par, ex1_ret, ex1_ret0, ex1_ite, ex1_sti, leD, ltD, geD, lenD, isD, isnD, isB, D.items, neD, eqD, eqB])]
  show exs _ _ [.h 0, .v su, .h 1, s3, .u, s5, s6, s7, .v v, .u, .u, .v (.int n), s12, s13, s14, .u, .u, .u] _ = _
  unfold B_law_right_1
  rw [exs_nx (ρ1 := [.h 0, .v su, .h 1, s3, .u, s5, s6, s7, .v v, .u, .u, .v (.int n), s12, s13, .v (.bl b), .u, .u, .u]) (φ1 := φ) (by simp -dsimp [exs, ev, evs, evP, evC, evT, opn, op2, op1, peek, peeks, truX, truth, biD, cmpD, binD, bindT, bindTs, frzX, frzXs, O.toD, X1.sl, ix_tup, ix_lst, ix_rls, atI_0, atI_1, atI_2, atI_3, gtD, modD, fdivD, intD, addD, subD, mulD, Ev.finish, powD, isiD, D.tyn, isT, evF_lst, evF_cat, evF_rep, evF_sl, evF_bil, evF_bis, evF_bid, evF_rng, evF_dnew, evF_ssi, ex1_ex, ex1_nm, ex1_tp, ex1_par, ex1_ret, ex1_ret0, ex1_ite, ex1_sti, leD, ltD, geD, lenD, isD, isnD, isB, D.items, neD, eqD, eqB, hφ, ha, hi])]
  rw [exs_nx (ρ1 := [.h 0, .v su, .h 1, s3, .u, s5, s6, s7, .v v, .u, .u, .v (.int n), s12, s13, .v (.bl b), .u, .u, .u]) (φ1 := φ) (by simp -dsimp [exs, ev, evs, evP, evC, evT, opn, op2, op1, peek, peeks, truX, truth, biD, cmpD, binD, bindT, bindTs, frzX, frzXs, O.toD, X1.sl, ix_tup, ix_lst, ix_rls, atI_0, atI_1, atI_2, atI_3, gtD, modD, fdivD, intD, addD, subD, mulD, Ev.finish, powD, isiD, D.tyn, isT, evF_lst, evF_cat, evF_rep, evF_sl, evF_bil, evF_bis, evF_bid, evF_rng, evF_dnew, evF_ssi, ex1_ex, ex1_nm, ex1_tp, ex1_par, ex1_ret, ex1_ret0, ex1_ite, ex1_sti, leD, ltD, geD, lenD, isD, isnD, isB, D.items, eqD, hw, hst, hne])]
  rfl
end
end K38
namespace K38
open PySem Ev
abbrev GR : List FSem := [F_below, F_least_cut, F_fine, F_law_take, F_law_scale, F_shows_below, F_law_is_told, (F_law_bent 4), F_law_least, F_law_sums, F_law_of]
theorem rc_one {Fb Fl Ff Ft Fs Fw Fi Fn Fe Fu Fo : FSem} {S : List D} {a2 a3 a4 a5 a6 a7 a8 a9 a10 a11 a12 a13 a14 a15 a16 a17 : Sl} {φ φ' : List O} {r : Int} {d : D} (e : callX Ft [.h 0, .v (.int S.length)] φ = .ok (.v (.int r)) φ') (hl : S.length ≤ 1000) :
    one1 [17] (.nm 17) (fun ρ1 φ2 => evC [Fb, Fl, Ff, Ft, Fs, Fw, Fi, Fn, Fe, Fu, Fo] none ρ1 φ2) (fun ρ1 φ2 => ev [Fb, Fl, Ff, Ft, Fs, Fw, Fi, Fn, Fe, Fu, Fo] (.bi .int [(.call 3 [(.slot 0), (.bi .len [(.slot 1)])])]) ρ1 φ2) [.h 0, .v (.tup S), a2, a3, a4, a5, a6, a7, a8, a9, a10, a11, a12, a13, a14, a15, a16, a17] d φ = .ok (some (.int r)) φ' := by
  have hs : S.length ≤ 16777216 := by omega
  simp -dsimp [exs, ev, evs, evP, evC, evT, opn, op2, op1, peek, peeks, truX, truth, biD, cmpD, binD, bindT, bindTs, frzX, frzXs, O.toD, X1.sl, ix_tup, ix_lst, ix_rls, atI_0, atI_1, atI_2, atI_3, gtD, modD, fdivD, intD, addD, subD, mulD, Ev.finish, powD, isiD, D.tyn, isT, evF_lst, evF_cat, evF_rep, evF_sl, evF_bil, evF_bis, evF_bid, evF_rng, evF_dnew, evF_ssi, ex1_ex, ex1_nm, ex1_tp, ex1_par, ex1_ret, ex1_ret0, ex1_ite, ex1_sti, leD, ltD, geD, lenD, isD, isnD, isB, D.items, neD, eqD, eqB, one1, wipeR, e, hs, sizeLine_eq]
theorem rc_all {b : Nat} {S : List D} {W : List O} {a2 a3 a4 a5 a6 a7 a8 a9 a10 a11 a12 a13 a14 a15 a16 a17 : Sl} (h0 : 0 < S.length) (hl : S.length ≤ 1000) : ∀ (ds : List D) (o : O), PotB (b + ds.length) o → ∃ (ns : List Int) (o' : O), compL (one1 [17] (.nm 17) (fun ρ1 φ2 => evC GR none ρ1 φ2) (fun ρ1 φ2 => ev GR (.bi .int [(.call 3 [(.slot 0), (.bi .len [(.slot 1)])])]) ρ1 φ2) [.h 0, .v (.tup S), a2, a3, a4, a5, a6, a7, a8, a9, a10, a11, a12, a13, a14, a15, a16, a17]) ds (o :: W) = .ok (ns.map D.int) (o' :: W) ∧ ns.length = ds.length ∧ (∀ a ∈ ns, 0 ≤ a ∧ a < S.length) ∧ PotB b o'
  | [], o, h => ⟨[], o, rfl, rfl, (fun _ h => nomatch h), h⟩
  | d :: ds, o, h => by
    obtain ⟨r, o1, e1, r0, r1, h1⟩ := take_call (b := b + ds.length) (φ := o :: W) (j := 0) (u := S.length) rfl h (by omega) (by omega)
    obtain ⟨ns, o', e2, hn, hb, h2⟩ := rc_all h0 hl ds o1 h1
    refine ⟨r :: ns, o', ?_, by simp -dsimp [exs, ev, evs, evP, evC, evT, opn, op2, op1, peek, peeks, truX, truth, biD, cmpD, binD, bindT, bindTs, frzX, frzXs, O.toD, X1.sl, ix_tup, ix_lst, ix_rls, atI_0, atI_1, atI_2, atI_3, gtD, modD, fdivD, intD, addD, subD, mulD, Ev.finish, powD, isiD, D.tyn, isT, evF_lst, evF_cat, evF_rep, evF_sl, evF_bil, evF_bis, evF_bid, evF_rng, evF_dnew, evF_ssi, ex1_ex, ex1_nm, ex1_tp, ex1_par, ex1_ret, ex1_ret0, ex1_ite, ex1_sti, leD, ltD, geD, lenD, isD, isnD, isB, D.items, neD, eqD, eqB, hn], fun a ha => ?_, h2⟩
    · simp -dsimp only [compL]
      rw [rc_one e1 hl]
      show R.bind (compL _ ds (o1 :: W)) _ = _
      rw [e2]; rfl
    · rcases List.mem_cons.mp ha with rfl | ha
      · exact ⟨r0, r1⟩
      · exact hb a ha
theorem rc_comp {b : Nat} {S : List D} {o : O} {W : List O} {a2 a3 a4 a5 a6 a7 a8 a9 a10 a11 a12 a13 a14 a15 a16 a17 : Sl} (h0 : 0 < S.length) (hl : S.length ≤ 1000) (h : PotB (b + 5) o) : ∃ (ns : List Int) (o' : O), evF GR C_law_right_3 [.h 0, .v (.tup S), a2, a3, a4, a5, a6, a7, a8, a9, a10, a11, a12, a13, a14, a15, a16, a17] (o :: W) = .ok (.lst (ns.map D.int)) (o' :: W) ∧ ns.length ≤ 4 ∧ (∀ a ∈ ns, 0 ≤ a ∧ a < S.length) ∧ PotB b o' := by
  obtain ⟨r, o1, e1, r0, r1, h1⟩ := take_call (b := b + 4) (φ := o :: W) (j := 0) (u := 4) rfl h (by decide) (by decide)
  have hlen : (rngL 0 (1 + r)).length ≤ 4 := by rw [rngL_len]; omega
  obtain ⟨ns, o2, e2, hn, hb, h2⟩ := rc_all (b := b) (W := W) (a2 := a2) (a3 := a3) (a4 := a4) (a5 := a5) (a6 := a6) (a7 := a7) (a8 := a8) (a9 := a9) (a10 := a10) (a11 := a11) (a12 := a12) (a13 := a13) (a14 := a14) (a15 := a15) (a16 := a16) (a17 := a17) h0 hl (rngL 0 (1 + r)) o1 (h1.le (by omega))
  refine ⟨ns, o2, ?_, by omega, hb, h2⟩
  have hI : evI GR (.rng1 (.bin .Add (.con (.int 1)) (.call 3 [(.slot 0), (.con (.int 4))]))) [.h 0, .v (.tup S), a2, a3, a4, a5, a6, a7, a8, a9, a10, a11, a12, a13, a14, a15, a16, a17] (o :: W) = .ok ⟨rngL 0 (1 + r), true, []⟩ (o1 :: W) := by
    refine evI_rng1 ?_ (inRng_of (by omega) (by omega))
    have : ∀ {Fb Fl Ff Ft Fs Fw Fi Fn Fe Fu Fo : FSem} {φ φ' : List O}, callX Ft [.h 0, .v (.int 4)] φ = .ok (.v (.int r)) φ' → ev [Fb, Fl, Ff, Ft, Fs, Fw, Fi, Fn, Fe, Fu, Fo] (.bin .Add (.con (.int 1)) (.call 3 [(.slot 0), (.con (.int 4))])) [.h 0, .v (.tup S), a2, a3, a4, a5, a6, a7, a8, a9, a10, a11, a12, a13, a14, a15, a16, a17] φ = .ok (.v (.int (1 + r))) φ' := by
      intro Fb Fl Ff Ft Fs Fw Fi Fn Fe Fu Fo φ φ' e
      simp -dsimp [exs, ev, evs, evP, evC, evT, opn, op2, op1, peek, peeks, truX, truth, biD, cmpD, binD, bindT, bindTs, frzX, frzXs, O.toD, X1.sl, ix_tup, ix_lst, ix_rls, atI_0, atI_1, atI_2, atI_3, gtD, modD, fdivD, intD, addD, subD, mulD, Ev.finish, powD, isiD, D.tyn, isT, evF_lst, evF_cat, evF_rep, evF_sl, evF_bil, evF_bis, evF_bid, evF_rng, evF_dnew, evF_ssi, ex1_ex, ex1_nm, ex1_tp, ex1_par, ex1_ret, ex1_ret0, ex1_ite, ex1_sti, leD, ltD, geD, lenD, isD, isnD, isB, D.items, neD, eqD, eqB, e]
    exact this e1
  unfold C_law_right_3
  rw [evF, hI]
  simp -dsimp only [R.bind_ok, compX]
  rw [if_pos (by rw [sizeLine_eq]; omega), e2]
  rfl
theorem L_bd2 {sm : Sm} (h : LSm sm) : ∀ n, L sm n ≤ 59 * n := by
  intro n
  induction n using Nat.strongRecOn with
  | _ n ih =>
    by_cases h0 : n = 0
    · subst h0; exact Int.le_refl _
    · obtain ⟨i, p, hp, e, _⟩ := ent_rec h.v (n := n) (by omega)
      have hb := h.v.bd p (List.mem_of_getElem? hp)
      have hb2 := h.bd p (List.mem_of_getElem? hp)
      have := ih ((n : Int) - p.1).toNat (by omega)
      show (entG (rowsI sm) n).1 ≤ _
      rw [e]
      show L sm ((n : Int) - p.1).toNat + p.2 ≤ _
      omega
theorem lk_pair {m : Int} {rs : List D} (hm : m.natAbs ≤ 20000) (g : ∀ x ∈ rs, Good x) (hl : rs.length ≤ 100) : Lk (.tup [.int m, .tup rs]) := by
  refine ⟨.tup _ fun x hx => ?_, fun xs e => by cases e; simp -dsimp [exs, ev, evs, evP, evC, evT, opn, op2, op1, peek, peeks, truX, truth, biD, cmpD, binD, bindT, bindTs, frzX, frzXs, O.toD, X1.sl, ix_tup, ix_lst, ix_rls, atI_0, atI_1, atI_2, atI_3, gtD, modD, fdivD, intD, addD, subD, mulD, Ev.finish, powD, isiD, D.tyn, isT, evF_lst, evF_cat, evF_rep, evF_sl, evF_bil, evF_bis, evF_bid, evF_rng, evF_dnew, evF_ssi, ex1_ex, ex1_nm, ex1_tp, ex1_par, ex1_ret, ex1_ret0, ex1_ite, ex1_sti, leD, ltD, geD, lenD, isD, isnD, isB, D.items, neD, eqD, eqB], fun a b e => by cases e; exact ⟨rb_int (by omega), fun xs e => by cases e; exact hl⟩⟩
  simp -dsimp only [List.mem_cons, List.not_mem_nil, or_false] at hx
  rcases hx with rfl | rfl
  · exact .int _
  · exact .tup _ g
theorem good_ints (ns : List Int) : ∀ x ∈ ns.map D.int, Good x := fun x hx => by
  obtain ⟨a, _, rfl⟩ := List.mem_map.mp hx
  exact .int a
theorem vs0_lk {m : Int} {ns : List Int} (hm : m.natAbs ≤ 15000) (hl : ns.length ≤ 60) (hb : ∀ a ∈ ns, 0 ≤ a ∧ a < 100) : ∀ v ∈ vs0 m (ns.map D.int), Lk v := by
  have hg := good_ints ns
  have hlm : (ns.map D.int).length ≤ 60 := by rw [List.length_map]; exact hl
  have hB : BG 2 (.tup (ns.map D.int)) := .inr (.inr (.inr ⟨_, rfl, by omega, fun x hx => by
    obtain ⟨a, ha, rfl⟩ := List.mem_map.mp hx
    have := hb a ha
    exact .inl ⟨a, rfl, by omega⟩⟩))
  intro v hv
  simp -dsimp only [vs0, List.mem_cons, List.not_mem_nil, or_false] at hv
  rcases hv with rfl | rfl | rfl | rfl | rfl | rfl
  · exact lk_pair (by omega) hg (by omega)
  · refine ⟨.tup _ fun x hx => ?_, fun xs e => by cases e; simp -dsimp [exs, ev, evs, evP, evC, evT, opn, op2, op1, peek, peeks, truX, truth, biD, cmpD, binD, bindT, bindTs, frzX, frzXs, O.toD, X1.sl, ix_tup, ix_lst, ix_rls, atI_0, atI_1, atI_2, atI_3, gtD, modD, fdivD, intD, addD, subD, mulD, Ev.finish, powD, isiD, D.tyn, isT, evF_lst, evF_cat, evF_rep, evF_sl, evF_bil, evF_bis, evF_bid, evF_rng, evF_dnew, evF_ssi, ex1_ex, ex1_nm, ex1_tp, ex1_par, ex1_ret, ex1_ret0, ex1_ite, ex1_sti, leD, ltD, geD, lenD, isD, isnD, isB, D.items, neD, eqD, eqB], fun a b e => by cases e; exact ⟨BG.rb (by decide) hB, fun xs e => by cases e⟩⟩
    simp -dsimp only [List.mem_cons, List.not_mem_nil, or_false] at hx
    rcases hx with rfl | rfl
    · exact .tup _ hg
    · exact .int _
  · exact ⟨.lst _, fun xs e => (by cases e), fun a b e => by cases e⟩
  · exact lk_pair (by omega) hg (by omega)
  · exact lk_pair (by omega) (fun x hx => hg x (List.mem_reverse.mp hx)) (by rw [List.length_reverse]; omega)
  · exact ⟨.non, fun xs e => (by cases e), fun a b e => by cases e⟩
theorem told_bg {m : Int} {ns : List Int} (hm : m.natAbs ≤ 15000) (hl : ns.length ≤ 60) (hb : ∀ a ∈ ns, 0 ≤ a ∧ a < 100) : BG 4 (.tup [.int m, .tup (ns.map D.int)]) := by
  refine .inr (.inr (.inr ⟨_, rfl, by simp -dsimp [exs, ev, evs, evP, evC, evT, opn, op2, op1, peek, peeks, truX, truth, biD, cmpD, binD, bindT, bindTs, frzX, frzXs, O.toD, X1.sl, ix_tup, ix_lst, ix_rls, atI_0, atI_1, atI_2, atI_3, gtD, modD, fdivD, intD, addD, subD, mulD, Ev.finish, powD, isiD, D.tyn, isT, evF_lst, evF_cat, evF_rep, evF_sl, evF_bil, evF_bis, evF_bid, evF_rng, evF_dnew, evF_ssi, ex1_ex, ex1_nm, ex1_tp, ex1_par, ex1_ret, ex1_ret0, ex1_ite, ex1_sti, leD, ltD, geD, lenD, isD, isnD, isB, D.items, neD, eqD, eqB], fun x hx => ?_⟩))
  simp -dsimp only [List.mem_cons, List.not_mem_nil, or_false] at hx
  rcases hx with rfl | rfl
  · exact .inl ⟨m, rfl, hm⟩
  · refine .inr (.inr (.inr ⟨_, rfl, by rw [List.length_map]; omega, fun y hy => ?_⟩))
    obtain ⟨a, ha, rfl⟩ := List.mem_map.mp hy
    have := hb a ha
    exact .inl ⟨a, rfl, by omega⟩
theorem lap_ok {b : Nat} {o : O} {q : List O} {sm : Sm} (h : LSm sm) {lap : Int} {s3 s5 s6 s7 s8 s11 s12 s13 s14 : Sl} (hP : PotB (b + 200) o) : ∃ s5' s6' s7' s8' s11' s12' s13' s14' o' q', turnF GR (.nm 3) B_law_right_3 (.int lap) [.h 0, .v (.tup (sm.map prD)), .h 1, s3, .u, s5, s6, s7, s8, .u, .u, s11, s12, s13, s14, .u, .u, .u] (o :: .lst (((List.range 49).map (L sm)).map D.int) :: q) = .ok (.nx [.h 0, .v (.tup (sm.map prD)), .h 1, .v (.int lap), .u, s5', s6', s7', s8', .u, .u, s11', s12', s13', s14', .u, .u, .u]) (o' :: .lst (((List.range 49).map (L sm)).map D.int) :: q') ∧ PotB b o' := by
  have hv := h.v
  generalize hLT : ((List.range 49).map (L sm)).map D.int = LT
  obtain ⟨d1, o1, e1, a1, b1, h1⟩ := take_call (b := b + 199) (φ := o :: .lst LT :: q) (j := 0) (u := 25) rfl hP (by decide) (by decide)
  obtain ⟨d2, o2, e2, a2, b2, h2⟩ := take_call (b := b + 198) (φ := o1 :: .lst LT :: q) (j := 0) (u := 25) rfl h1 (by decide) (by decide)
  obtain ⟨n, rfl⟩ := Int.eq_ofNat_of_zero_le a1
  obtain ⟨n2, rfl⟩ := Int.eq_ofNat_of_zero_le a2
  obtain ⟨r, hbel, k1, k2, k3, k4⟩ := below_call hv (n := n) (by omega)
  obtain ⟨ra, hba, _⟩ := below_call hv (n := n + 1) (by omega)
  obtain ⟨rb, hbb, _⟩ := below_call hv (n := n + n2) (by omega)
  obtain ⟨rc, hbc, _⟩ := below_call hv (n := n2) (by omega)
  have m0 := L_nonneg hv n
  have m1 := L_bd2 h n
  have hat : L2.atI LT (n : Int) = some (.int (L sm n)) := by
    rw [← hLT, at_L (by omega) (by omega), Int.toNat_natCast]
  have hrl : (srt r).length ≤ 24 := by rw [srt_len]; omega
  have hrb : ∀ a ∈ srt r, 0 ≤ a ∧ a < 100 := fun a ha => by
    have := k1 a ((srt_perm r).mem_iff.mp ha)
    have := h.len
    omega
  have hlk0 := vs0_lk (m := L sm n) (ns := srt r) (by omega) (by omega) hrb
  have hb3 : ∀ φ, callX F_law_is_told [.v (.tup (sm.map prD)), .v (.int n), .v (.int (L sm n)), .v (.tup [.int (L sm n), .tup ((srt r).map D.int)])] φ = .ok (.v (.bl true)) φ := fun φ => by
    rw [is_told_call hv (by omega) (hlk0 _ (by simp -dsimp [exs, ev, evs, evP, evC, evT, opn, op2, op1, peek, peeks, truX, truth, biD, cmpD, binD, bindT, bindTs, frzX, frzXs, O.toD, X1.sl, ix_tup, ix_lst, ix_rls, atI_0, atI_1, atI_2, atI_3, gtD, modD, fdivD, intD, addD, subD, mulD, Ev.finish, powD, isiD, D.tyn, isT, evF_lst, evF_cat, evF_rep, evF_sl, evF_bil, evF_bis, evF_bid, evF_rng, evF_dnew, evF_ssi, ex1_ex, ex1_nm, ex1_tp, ex1_par, ex1_ret, ex1_ret0, ex1_ite, ex1_sti, leD, ltD, geD, lenD, isD, isnD, isB, D.items, neD, eqD, eqB, vs0])), below_right hv k1 k2 k3 k4]
  have hL1 := L_suc hv n
  have hL2 := L_sub hv n2 n
  unfold turnF
  simp -dsimp only [bindT]
  rw [if_pos (by simp -dsimp [exs, ev, evs, evP, evC, evT, opn, op2, op1, peek, peeks, truX, truth, biD, cmpD, binD, bindT, bindTs, frzX, frzXs, O.toD, X1.sl, ix_tup, ix_lst, ix_rls, atI_0, atI_1, atI_2, atI_3, gtD, modD, fdivD, intD, addD, subD, mulD, Ev.finish, powD, isiD, D.tyn, isT, evF_lst, evF_cat, evF_rep, evF_sl, evF_bil, evF_bis, evF_bid, evF_rng, evF_dnew, evF_ssi, ex1_ex, ex1_nm, ex1_tp, ex1_par, ex1_ret, ex1_ret0, ex1_ite, ex1_sti, leD, ltD, geD, lenD, isD, isnD, isB, D.items, neD, eqD, eqB])]
  show ∃ s5' s6' s7' s8' s11' s12' s13' s14' o' q', exs GR _ [.h 0, .v (.tup (sm.map prD)), .h 1, .v (.int lap), .u, s5, s6, s7, s8, .u, .u, s11, s12, s13, s14, .u, .u, .u] _ = _ ∧ _
  unfold B_law_right_3
  have hc1 : ((n + 1 : Nat) : Int) = (n : Int) + 1 := by omega
  have hc2 : ((n + n2 : Nat) : Int) = (n : Int) + n2 := by omega
  rw [hc1] at hba
  rw [hc2] at hbb
  rw [exs_nx (rb1 e1 e2), exs_nx (rb2 hbel), exs_nx (rb3 hat hb3), exs_nx (rb4 hba hbb hbc (by omega) (by omega)), exs_nx rb5]
  have hcut : slD (.tup ((srt r).map D.int)) (some 1) none = some (.tup (((srt r).drop 1).map D.int)) := by
    show some (D.tup (cut _ (some ((1 : Nat) : Int)) none)) = _
    rw [cut_fr, List.map_drop]
  rw [exs_nx (rb6 hcut (by simp -dsimp [exs, ev, evs, evP, evC, evT, opn, op2, op1, peek, peeks, truX, truth, biD, cmpD, binD, bindT, bindTs, frzX, frzXs, O.toD, X1.sl, ix_tup, ix_lst, ix_rls, atI_0, atI_1, atI_2, atI_3, gtD, modD, fdivD, intD, addD, subD, mulD, Ev.finish, powD, isiD, D.tyn, isT, evF_lst, evF_cat, evF_rep, evF_sl, evF_bil, evF_bis, evF_bid, evF_rng, evF_dnew, evF_ssi, ex1_ex, ex1_nm, ex1_tp, ex1_par, ex1_ret, ex1_ret0, ex1_ite, ex1_sti, leD, ltD, geD, lenD, isD, isnD, isB, D.items, neD, eqD, eqB, vs0]))]
  have hbg := told_bg (m := L sm n) (ns := srt r) (by omega) (by omega) hrb
  have hSl : (sm.map prD).length = sm.length := List.length_map _
  have hS0 : 0 < (sm.map prD).length := by rw [hSl]; exact List.length_pos_iff.mpr hv.ne
  have hI7 : evI GR (.rng1 (.con (.int 8))) [.h 0, .v (.tup (sm.map prD)), .h 1, .v (.int lap), .u, .v (.tup [.int (L sm n), .tup ((srt r).map D.int)]), .h (q.length + 2), s7, s8, .u, .u, .v (.int n), .v (.int n2), s13, s14, .u, .u, .u] (o2 :: .lst LT :: (q ++ [.lst (vs0 (L sm n) ((srt r).map D.int) ++ [.tup [.int (L sm n), .tup (((srt r).drop 1).map D.int)]])])) = .ok ⟨rngL 0 8, true, []⟩ (o2 :: .lst LT :: (q ++ [.lst (vs0 (L sm n) ((srt r).map D.int) ++ [.tup [.int (L sm n), .tup (((srt r).drop 1).map D.int)]])])) := evI_rng1 (by simp -dsimp only [ev]) (by decide)
  obtain ⟨ρ7, φ7, e7, t7, t13, o7, vs, p1, p2, p3, p4, p5⟩ := forL_inv (f := turnF GR (.nm 7) B_law_right_2) (fun i ρ φ => ∃ (t7 t13 : Sl) (o : O) (vs : List D), ρ = [.h 0, .v (.tup (sm.map prD)), .h 1, .v (.int lap), .u, .v (.tup [.int (L sm n), .tup ((srt r).map D.int)]), .h (q.length + 2), t7, s8, .u, .u, .v (.int n), .v (.int n2), t13, s14, .u, .u, .u] ∧ φ = o :: .lst LT :: (q ++ [.lst vs]) ∧ (∀ v ∈ vs, Lk v) ∧ vs.length ≤ 10 + 2 * i ∧ PotB (b + 22 * (8 - i)) o) (rngL 0 8) 0 _ _ ⟨s7, s13, o2, vs0 (L sm n) ((srt r).map D.int) ++ [.tup [.int (L sm n), .tup (((srt r).drop 1).map D.int)]], rfl, rfl, fun v hvm => by
      rcases List.mem_append.mp hvm with hvm | hvm
      · exact hlk0 v hvm
      · rw [List.mem_singleton] at hvm; subst hvm
        exact lk_pair (by omega) (good_ints _) (by rw [List.length_map, List.length_drop]; omega), by simp -dsimp [exs, ev, evs, evP, evC, evT, opn, op2, op1, peek, peeks, truX, truth, biD, cmpD, binD, bindT, bindTs, frzX, frzXs, O.toD, X1.sl, ix_tup, ix_lst, ix_rls, atI_0, atI_1, atI_2, atI_3, gtD, modD, fdivD, intD, addD, subD, mulD, Ev.finish, powD, isiD, D.tyn, isT, evF_lst, evF_cat, evF_rep, evF_sl, evF_bil, evF_bis, evF_bid, evF_rng, evF_dnew, evF_ssi, ex1_ex, ex1_nm, ex1_tp, ex1_par, ex1_ret, ex1_ret0, ex1_ite, ex1_sti, leD, ltD, geD, lenD, isD, isnD, isB, D.items, neD, eqD, eqB, vs0], h2.le (by omega)⟩ (by
    rintro j d ρ φ hj ⟨t7, t13, o, vs, r1', r2', hlk, hlen, hP⟩
    obtain ⟨rfl, hj2⟩ := rngL_at hj
    have hj3 : j < 8 := by simpa using hj2
    rw [Nat.zero_add] at *
    subst r1' r2'
    obtain ⟨ns, oa, ea, hn4, hnb, ha⟩ := rc_comp (b := b + 22 * (8 - (j + 1)) + 16) (W := .lst LT :: (q ++ [.lst vs])) (S := sm.map prD) (o := o) (a2 := .h 1) (a3 := .v (.int lap)) (a4 := .u) (a5 := .v (.tup [.int (L sm n), .tup ((srt r).map D.int)])) (a6 := .h (q.length + 2)) (a7 := .v (.int (0 + j))) (a8 := s8) (a9 := .u) (a10 := .u) (a11 := .v (.int n)) (a12 := .v (.int n2)) (a13 := t13) (a14 := s14) (a15 := .u) (a16 := .u) (a17 := .u) hS0 (by rw [hSl]; have := h.len; omega) (hP.le (by omega))
    obtain ⟨bd, ob, eb, gb, outb, hb⟩ := bent_ok 4 (b + 22 * (8 - (j + 1))) (by decide) hbg (o := oa) (ha.le (by omega))
    have ebc : callX (F_law_bent 4) [.h 0, .v (.tup [.int (L sm n), .tup ((srt r).map D.int)])] (oa :: .lst LT :: (q ++ [.lst vs])) = .ok (.v bd) (ob :: .lst LT :: (q ++ [.lst vs])) := callX_h1 (j := 0) [_] rfl ha.live eb
    have step := rb7 (Fb := F_below) (Fl := F_least_cut) (Ff := F_fine) (Ft := F_law_take) (Fs := F_law_scale) (Fw := F_shows_below) (Fi := F_law_is_told) (Fn := F_law_bent 4) (Fe := F_law_least) (Fu := F_law_sums) (Fo := F_law_of) (W := []) (s7 := t7) (sorted_ints ns) tupl_ints ea ebc (by omega)
    refine ⟨_, _, step, _, _, ob, _, rfl, rfl, fun v hvm => ?_, by rw [List.length_append]; simp -dsimp [exs, ev, evs, evP, evC, evT, opn, op2, op1, peek, peeks, truX, truth, biD, cmpD, binD, bindT, bindTs, frzX, frzXs, O.toD, X1.sl, ix_tup, ix_lst, ix_rls, atI_0, atI_1, atI_2, atI_3, gtD, modD, fdivD, intD, addD, subD, mulD, Ev.finish, powD, isiD, D.tyn, isT, evF_lst, evF_cat, evF_rep, evF_sl, evF_bil, evF_bis, evF_bid, evF_rng, evF_dnew, evF_ssi, ex1_ex, ex1_nm, ex1_tp, ex1_par, ex1_ret, ex1_ret0, ex1_ite, ex1_sti, leD, ltD, geD, lenD, isD, isnD, isB, D.items, neD, eqD, eqB]; omega, hb⟩
    rcases List.mem_append.mp hvm with hvm | hvm
    · exact hlk v hvm
    · simp -dsimp only [List.mem_cons, List.not_mem_nil, or_false] at hvm
      rcases hvm with rfl | rfl
      · exact lk_pair (by omega) (good_ints _) (by rw [List.length_map, srt_len]; omega)
      · exact ⟨gb, outb.2.2, fun a c e => outb.2.1 _ _ rfl a c e⟩)
  subst p1 p2
  rw [exs_nx (ex1_for hI7 e7)]
  have hu7 : unlock ⟨rngL 0 8, true, []⟩ (o7 :: .lst LT :: (q ++ [.lst vs])) = o7 :: .lst LT :: (q ++ [.lst vs]) := rfl
  rw [hu7]
  have hI8 : evI GR (.seq (.slot 6)) [.h 0, .v (.tup (sm.map prD)), .h 1, .v (.int lap), .u, .v (.tup [.int (L sm n), .tup ((srt r).map D.int)]), .h (q.length + 2), t7, s8, .u, .u, .v (.int n), .v (.int n2), t13, s14, .u, .u, .u] (o7 :: .lst LT :: (q ++ [.lst vs])) = .ok ⟨vs, true, [(q.length + 2, vs)]⟩ (o7 :: .lst LT :: (q ++ [.lck vs])) := by
    generalize GR = G
    simp -dsimp [exs, ev, evs, evP, evC, evT, opn, op2, op1, peek, peeks, truX, truth, biD, cmpD, binD, bindT, bindTs, frzX, frzXs, O.toD, X1.sl, ix_tup, ix_lst, ix_rls, atI_0, atI_1, atI_2, atI_3, gtD, modD, fdivD, intD, addD, subD, mulD, Ev.finish, powD, isiD, D.tyn, isT, evF_lst, evF_cat, evF_rep, evF_sl, evF_bil, evF_bis, evF_bid, evF_rng, evF_dnew, evF_ssi, ex1_ex, ex1_nm, ex1_tp, ex1_par, ex1_ret, ex1_ret0, ex1_ite, ex1_sti, leD, ltD, geD, lenD, isD, isnD, isB, D.items, neD, eqD, eqB, evI, walkX]
  obtain ⟨hA, _⟩ := forL_chk (f := turnF GR (.nm 8) B_law_right_1) (p := fun _ => true) (x := .v (.bl false)) (I := fun ρ => ∃ s8 s14, ρ = [.h 0, .v (.tup (sm.map prD)), .h 1, .v (.int lap), .u, .v (.tup [.int (L sm n), .tup ((srt r).map D.int)]), .h (q.length + 2), t7, s8, .u, .u, .v (.int n), .v (.int n2), t13, s14, .u, .u, .u]) (φ := o7 :: .lst LT :: (q ++ [.lck vs])) vs (by
    rintro v hvm ρ ⟨s8, s14, rfl⟩
    refine ⟨fun _ => ⟨_, rb8 (b := toldB sm n (L sm n) v) (m := L sm n) rfl hat (fun φ => is_told_call hv (by omega) (p3 v hvm) φ) (fun φ => shows_call hv (by omega) (p3 v hvm) φ), _, _, rfl⟩, fun h => by cases h⟩) _ ⟨s8, s14, rfl⟩
  obtain ⟨ρ8, e8, s8', s14', rfl⟩ := hA (by simp -dsimp [exs, ev, evs, evP, evC, evT, opn, op2, op1, peek, peeks, truX, truth, biD, cmpD, binD, bindT, bindTs, frzX, frzXs, O.toD, X1.sl, ix_tup, ix_lst, ix_rls, atI_0, atI_1, atI_2, atI_3, gtD, modD, fdivD, intD, addD, subD, mulD, Ev.finish, powD, isiD, D.tyn, isT, evF_lst, evF_cat, evF_rep, evF_sl, evF_bil, evF_bis, evF_bid, evF_rng, evF_dnew, evF_ssi, ex1_ex, ex1_nm, ex1_tp, ex1_par, ex1_ret, ex1_ret0, ex1_ite, ex1_sti, leD, ltD, geD, lenD, isD, isnD, isB, D.items, neD, eqD, eqB])
  rw [exs_nx (ex1_for hI8 e8)]
  have hu8 : unlock ⟨vs, true, [(q.length + 2, vs)]⟩ (o7 :: .lst LT :: (q ++ [.lck vs])) = o7 :: .lst LT :: (q ++ [.lst vs]) := by
    simp -dsimp [exs, ev, evs, evP, evC, evT, opn, op2, op1, peek, peeks, truX, truth, biD, cmpD, binD, bindT, bindTs, frzX, frzXs, O.toD, X1.sl, ix_tup, ix_lst, ix_rls, atI_0, atI_1, atI_2, atI_3, gtD, modD, fdivD, intD, addD, subD, mulD, Ev.finish, powD, isiD, D.tyn, isT, evF_lst, evF_cat, evF_rep, evF_sl, evF_bil, evF_bis, evF_bid, evF_rng, evF_dnew, evF_ssi, ex1_ex, ex1_nm, ex1_tp, ex1_par, ex1_ret, ex1_ret0, ex1_ite, ex1_sti, leD, ltD, geD, lenD, isD, isnD, isB, D.items, neD, eqD, eqB, unlock, unlockL]
  rw [hu8]
  exact ⟨_, _, _, _, _, _, _, _, o7, q ++ [.lst vs], rfl, p5.le (by omega)⟩
end K38
namespace K38
open PySem Ev
theorem fine_body {F1 F2 F3 : FSem} {sc : D} {cs : List D} {i x : Int} (h3 : ∀ φ, callX F3 [.v sc] φ = .ok (.v .non) φ) (h2 : ∀ φ, callX F2 [.v (.int i), .v (.int 0)] φ = .ok (.v .non) φ) (h1 : ∀ φ, callX F1 [.v sc] φ = .ok (.v (.lst cs)) φ) (ha : L2.atI cs i = some (.int x)) : exs [F1, F2, F3] il_fine [.v sc, .v (.int i)] [] = .ok (.rt (.v (.int x))) [] := by
  unfold il_fine
  simp -dsimp [exs, ev, evs, evP, evC, evT, opn, op2, op1, peek, peeks, truX, truth, biD, cmpD, binD, bindT, bindTs, frzX, frzXs, O.toD, X1.sl, ix_tup, ix_lst, ix_rls, atI_0, atI_1, atI_2, atI_3, gtD, modD, fdivD, intD, addD, subD, mulD, Ev.finish, powD, isiD, D.tyn, isT, evF_lst, evF_cat, evF_rep, evF_sl, evF_bil, evF_bis, evF_bid, evF_rng, evF_dnew, evF_ssi, ex1_ex, ex1_nm, ex1_tp, ex1_par, ex1_ret, ex1_ret0, ex1_ite, ex1_sti, leD, ltD, geD, lenD, isD, isnD, isB, D.items, neD, eqD, eqB, h1, h2, h3, ha]
theorem fine_call {free : Int} {sts : List (Int × Int)} {most : D} (h : Sc free sts most) {i : Int} (h0 : 0 ≤ i) (h1 : i ≤ 400) (φ : List O) : callX F_fine [.v (scD free sts most), .v (.int i)] φ = .ok (.v (.int (cst free sts most i.toNat))) φ :=
  callX_a2 (evFn_v (fine_body (check_scale_call h) (check_days_call h0 h1) (costs_by_call h) (costs_get h0 h1)) ⟨rfl, by decide⟩ rfl)
theorem tot_mono {sts : List (Int × Int)} (hv : VSt sts) {i j : Nat} (h : i ≤ j) : tot sts i ≤ tot sts j := by
  obtain ⟨k, rfl⟩ : ∃ k, j = i + k := ⟨j - i, by omega⟩
  induction k with
  | zero => exact Int.le_refl _
  | succ k ih =>
    have h1 := ih (by omega)
    have h2 := each_bd hv ((i + k : Nat) + 1)
    show tot sts i ≤ tot sts (i + k) + each sts (((i + k : Nat) : Int) + 1)
    omega
theorem cst_mono {free : Int} {sts : List (Int × Int)} {most : D} (h : Sc free sts most) (i j : Nat) (hij : i ≤ j) : cst free sts most i ≤ cst free sts most j := by
  have := tot_mono h.v (i := i - free.toNat) (j := j - free.toNat) (by omega)
  unfold cst
  rcases h.m with rfl | ⟨m, rfl, m0, m1⟩
  · exact this
  · simp -dsimp only [cap]
    split <;> split <;> omega
theorem evy_v {free : Int} {sts : List (Int × Int)} {most : D} (h : Sc free sts most) {m : Nat} (m1 : 1 ≤ m) (m2 : m ≤ 30) : VSm (evy (cst free sts most) m) := by
  refine ⟨fun e => ?_, ?_, fun p hp => ?_, ?_⟩
  · have := congrArg List.length e
    simp -dsimp [exs, ev, evs, evP, evC, evT, opn, op2, op1, peek, peeks, truX, truth, biD, cmpD, binD, bindT, bindTs, frzX, frzXs, O.toD, X1.sl, ix_tup, ix_lst, ix_rls, atI_0, atI_1, atI_2, atI_3, gtD, modD, fdivD, intD, addD, subD, mulD, Ev.finish, powD, isiD, D.tyn, isT, evF_lst, evF_cat, evF_rep, evF_sl, evF_bil, evF_bis, evF_bid, evF_rng, evF_dnew, evF_ssi, ex1_ex, ex1_nm, ex1_tp, ex1_par, ex1_ret, ex1_ret0, ex1_ite, ex1_sti, leD, ltD, geD, lenD, isD, isnD, isB, D.items, neD, eqD, eqB, evy] at this
    omega
  · simp -dsimp [exs, ev, evs, evP, evC, evT, opn, op2, op1, peek, peeks, truX, truth, biD, cmpD, binD, bindT, bindTs, frzX, frzXs, O.toD, X1.sl, ix_tup, ix_lst, ix_rls, atI_0, atI_1, atI_2, atI_3, gtD, modD, fdivD, intD, addD, subD, mulD, Ev.finish, powD, isiD, D.tyn, isT, evF_lst, evF_cat, evF_rep, evF_sl, evF_bil, evF_bis, evF_bid, evF_rng, evF_dnew, evF_ssi, ex1_ex, ex1_nm, ex1_tp, ex1_par, ex1_ret, ex1_ret0, ex1_ite, ex1_sti, leD, ltD, geD, lenD, isD, isnD, isB, D.items, neD, eqD, eqB, evy]; exact m2
  · obtain ⟨j, hj, rfl⟩ := List.mem_map.mp hp
    rw [List.mem_range] at hj
    have := cst_bd h (i := j + 1) (by omega)
    simp -dsimp only
    omega
  · unfold evy
    rw [List.map_map, List.pairwise_map]
    exact List.pairwise_lt_range.imp fun h => by simp -dsimp only [Function.comp]; omega
section
variable {Fb Fl Ff Ft Fs Fw Fi Fn Fe Fu Fo : FSem} {su sc ev1 : D} {o o1 o2 : O} {LT : List D} {q W : List O} {wide m x1 x2 : Int} {R1 R2 : D} {s3 s4 s5 s6 s7 s8 s9 s10 s11 s12 s13 s14 : Sl}
theorem r1 (e1 : callX Fo [.h 0, .v (.lst [.int 1, .int 3, .int 9])] [o] = .ok (.v (.int wide)) [o1]) (e2 : callX Fu [.h 0, .v (.int wide)] [o1] = .ok (.v su) [o2]) :
    ex1 [Fb, Fl, Ff, Ft, Fs, Fw, Fi, Fn, Fe, Fu, Fo] (.asg (.nm 1) (.call 9 [(.slot 0), (.call 10 [(.slot 0), (.frz (.lst [(.con (.int 1)), (.con (.int 3)), (.con (.int 9))]))])])) [.h 0, .u, .u, .u, .u, .u, .u, .u, .u, .u, .u, .u, .u, .u, .u, .u, .u, .u] [o] = .ok (.nx [.h 0, .v su, .u, .u, .u, .u, .u, .u, .u, .u, .u, .u, .u, .u, .u, .u, .u, .u]) [o2] := by
  simp -dsimp [exs, ev, evs, evP, evC, evT, opn, op2, op1, peek, peeks, truX, truth, biD, cmpD, binD, bindT, bindTs, frzX, frzXs, O.toD, X1.sl, ix_tup, ix_lst, ix_rls, atI_0, atI_1, atI_2, atI_3, gtD, modD, fdivD, intD, addD, subD, mulD, Ev.finish, powD, isiD, D.tyn, isT, evF_lst, evF_cat, evF_rep, evF_sl, evF_bil, evF_bis, evF_bid, evF_rng, evF_dnew, evF_ssi, ex1_ex, ex1_nm, ex1_tp, ex1_par, ex1_ret, ex1_ret0, ex1_ite, ex1_sti, leD, ltD, geD, lenD, isD, isnD, isB, D.items, neD, eqD, eqB, e1, e2, sizeLine_eq]
theorem r2 (e1 : ∀ φ, callX Fe [.v su, .v (.int 48)] φ = .ok (.h φ.length) (φ ++ [.lst LT])) :
    ex1 [Fb, Fl, Ff, Ft, Fs, Fw, Fi, Fn, Fe, Fu, Fo] (.asg (.nm 2) (.call 8 [(.slot 1), (.con (.int 48))])) [.h 0, .v su, .u, .u, .u, .u, .u, .u, .u, .u, .u, .u, .u, .u, .u, .u, .u, .u] [o] = .ok (.nx [.h 0, .v su, .h 1, .u, .u, .u, .u, .u, .u, .u, .u, .u, .u, .u, .u, .u, .u, .u]) [o, .lst LT] := by
  simp -dsimp [exs, ev, evs, evP, evC, evT, opn, op2, op1, peek, peeks, truX, truth, biD, cmpD, binD, bindT, bindTs, frzX, frzXs, O.toD, X1.sl, ix_tup, ix_lst, ix_rls, atI_0, atI_1, atI_2, atI_3, gtD, modD, fdivD, intD, addD, subD, mulD, Ev.finish, powD, isiD, D.tyn, isT, evF_lst, evF_cat, evF_rep, evF_sl, evF_bil, evF_bis, evF_bid, evF_rng, evF_dnew, evF_ssi, ex1_ex, ex1_nm, ex1_tp, ex1_par, ex1_ret, ex1_ret0, ex1_ite, ex1_sti, leD, ltD, geD, lenD, isD, isnD, isB, D.items, neD, eqD, eqB, e1]
theorem r4 {L : List D} {φ : List O} (hC : evF [Fb, Fl, Ff, Ft, Fs, Fw, Fi, Fn, Fe, Fu, Fo] C_law_right_2 [.h 0, .v su, .h 1, s3, .u, s5, s6, s7, s8, .u, .u, s11, s12, s13, s14, .u, .u, .u] φ = .ok (.lst L) φ) (hA : allD [.lst L] = some (.bl true)) :
    ex1 [Fb, Fl, Ff, Ft, Fs, Fw, Fi, Fn, Fe, Fu, Fo] (.ite (.not (.bi .all [(.frz C_law_right_2)])) [
    .ret (.con (.bl false))] []) [.h 0, .v su, .h 1, s3, .u, s5, s6, s7, s8, .u, .u, s11, s12, s13, s14, .u, .u, .u] φ = .ok (.nx [.h 0, .v su, .h 1, s3, .u, s5, s6, s7, s8, .u, .u, s11, s12, s13, s14, .u, .u, .u]) φ := by
  simp -dsimp [exs, ev, evs, evP, evC, evT, opn, op2, op1, peek, peeks, truX, truth, biD, cmpD, binD, bindT, bindTs, frzX, frzXs, O.toD, X1.sl, ix_tup, ix_lst, ix_rls, atI_0, atI_1, atI_2, atI_3, gtD, modD, fdivD, intD, addD, subD, mulD, Ev.finish, powD, isiD, D.tyn, isT, evF_lst, evF_cat, evF_rep, evF_sl, evF_bil, evF_bis, evF_bid, evF_rng, evF_dnew, evF_ssi, ex1_ex, ex1_nm, ex1_tp, ex1_par, ex1_ret, ex1_ret0, ex1_ite, ex1_sti, leD, ltD, geD, lenD, isD, isnD, isB, D.items, neD, eqD, eqB, hC, hA]
theorem r4_one {p : Int × Int} {φ : List O} (hb : ∀ φ, callX Fb [.v su, .v (.int p.1)] φ = .ok (.v (.tup [.int x1, R1])) φ) (hx : x1 ≤ p.2) : one1 [15, 16] (.tp [(.nm 15), (.nm 16)]) (fun ρ1 φ2 => evC [Fb, Fl, Ff, Ft, Fs, Fw, Fi, Fn, Fe, Fu, Fo] none ρ1 φ2) (fun ρ1 φ2 => ev [Fb, Fl, Ff, Ft, Fs, Fw, Fi, Fn, Fe, Fu, Fo] (.cmp .LtE (.ix (.call 0 [(.slot 1), (.slot 15)]) (.con (.int 0))) (.slot 16)) ρ1 φ2) [.h 0, .v su, .h 1, s3, .u, s5, s6, s7, s8, .u, .u, s11, s12, s13, s14, .u, .u, .u] (prD p) φ = .ok (some (.bl true)) φ := by
  simp -dsimp [exs, ev, evs, evP, evC, evT, opn, op2, op1, peek, peeks, truX, truth, biD, cmpD, binD, bindT, bindTs, frzX, frzXs, O.toD, X1.sl, ix_tup, ix_lst, ix_rls, atI_0, atI_1, atI_2, atI_3, gtD, modD, fdivD, intD, addD, subD, mulD, Ev.finish, powD, isiD, D.tyn, isT, evF_lst, evF_cat, evF_rep, evF_sl, evF_bil, evF_bis, evF_bid, evF_rng, evF_dnew, evF_ssi, ex1_ex, ex1_nm, ex1_tp, ex1_par, ex1_ret, ex1_ret0, ex1_ite, ex1_sti, leD, ltD, geD, lenD, isD, isnD, isB, D.items, neD, eqD, eqB, one1, wipeR, prD, hb, hx]
theorem r5 (e1 : callX Fs [.h 0, .v (.int 3)] (o :: W) = .ok (.v sc) (o1 :: W)) (e2 : callX Ft [.h 0, .v (.int 30)] (o1 :: W) = .ok (.v (.int m)) (o2 :: W)) :
    ex1 [Fb, Fl, Ff, Ft, Fs, Fw, Fi, Fn, Fe, Fu, Fo] (.asg (.tp [(.nm 9), (.nm 10)]) (.tup [(.call 4 [(.slot 0), (.con (.int 3))]), (.bi .int [(.bin .Add (.con (.int 1)) (.call 3 [(.slot 0), (.con (.int 30))]))])])) [.h 0, .v su, .h 1, s3, .u, s5, s6, s7, s8, .u, .u, s11, s12, s13, s14, .u, .u, .u] (o :: W) = .ok (.nx [.h 0, .v su, .h 1, s3, .u, s5, s6, s7, s8, .v sc, .v (.int (1 + m)), s11, s12, s13, s14, .u, .u, .u]) (o2 :: W) := by
  simp -dsimp [exs, ev, evs, evP, evC, evT, opn, op2, op1, peek, peeks, truX, truth, biD, cmpD, binD, bindT, bindTs, frzX, frzXs, O.toD, X1.sl, ix_tup, ix_lst, ix_rls, atI_0, atI_1, atI_2, atI_3, gtD, modD, fdivD, intD, addD, subD, mulD, Ev.finish, powD, isiD, D.tyn, isT, evF_lst, evF_cat, evF_rep, evF_sl, evF_bil, evF_bis, evF_bid, evF_rng, evF_dnew, evF_ssi, ex1_ex, ex1_nm, ex1_tp, ex1_par, ex1_ret, ex1_ret0, ex1_ite, ex1_sti, leD, ltD, geD, lenD, isD, isnD, isB, D.items, neD, eqD, eqB, e1, e2, sizeLine_eq]
theorem r6 {L : List D} {φ : List O} (hC : evF [Fb, Fl, Ff, Ft, Fs, Fw, Fi, Fn, Fe, Fu, Fo] C_law_right_1 [.h 0, .v su, .h 1, s3, .u, s5, s6, s7, s8, .v sc, .v (.int m), s11, s12, s13, s14, .u, .u, .u] φ = .ok (.lst L) φ) (ht : tupleD [.lst L] = some (.tup L)) :
    ex1 [Fb, Fl, Ff, Ft, Fs, Fw, Fi, Fn, Fe, Fu, Fo] (.asg (.nm 4) (.bi .tuple [(.frz C_law_right_1)])) [.h 0, .v su, .h 1, s3, .u, s5, s6, s7, s8, .v sc, .v (.int m), s11, s12, s13, s14, .u, .u, .u] φ = .ok (.nx [.h 0, .v su, .h 1, s3, .v (.tup L), s5, s6, s7, s8, .v sc, .v (.int m), s11, s12, s13, s14, .u, .u, .u]) φ := by
  simp -dsimp [exs, ev, evs, evP, evC, evT, opn, op2, op1, peek, peeks, truX, truth, biD, cmpD, binD, bindT, bindTs, frzX, frzXs, O.toD, X1.sl, ix_tup, ix_lst, ix_rls, atI_0, atI_1, atI_2, atI_3, gtD, modD, fdivD, intD, addD, subD, mulD, Ev.finish, powD, isiD, D.tyn, isT, evF_lst, evF_cat, evF_rep, evF_sl, evF_bil, evF_bis, evF_bid, evF_rng, evF_dnew, evF_ssi, ex1_ex, ex1_nm, ex1_tp, ex1_par, ex1_ret, ex1_ret0, ex1_ite, ex1_sti, leD, ltD, geD, lenD, isD, isnD, isB, D.items, neD, eqD, eqB, hC, ht]
theorem r6_one {d x : Int} {φ : List O} {s10 : Sl} (hf : ∀ φ, callX Ff [.v sc, .v (.int d)] φ = .ok (.v (.int x)) φ) : one1 [11] (.nm 11) (fun ρ1 φ2 => evC [Fb, Fl, Ff, Ft, Fs, Fw, Fi, Fn, Fe, Fu, Fo] none ρ1 φ2) (fun ρ1 φ2 => ev [Fb, Fl, Ff, Ft, Fs, Fw, Fi, Fn, Fe, Fu, Fo] (.tup [(.slot 11), (.call 2 [(.slot 9), (.slot 11)])]) ρ1 φ2) [.h 0, .v su, .h 1, s3, .u, s5, s6, s7, s8, .v sc, s10, s11, s12, s13, s14, .u, .u, .u] (.int d) φ = .ok (some (.tup [.int d, .int x])) φ := by
  simp -dsimp [exs, ev, evs, evP, evC, evT, opn, op2, op1, peek, peeks, truX, truth, biD, cmpD, binD, bindT, bindTs, frzX, frzXs, O.toD, X1.sl, ix_tup, ix_lst, ix_rls, atI_0, atI_1, atI_2, atI_3, gtD, modD, fdivD, intD, addD, subD, mulD, Ev.finish, powD, isiD, D.tyn, isT, evF_lst, evF_cat, evF_rep, evF_sl, evF_bil, evF_bis, evF_bid, evF_rng, evF_dnew, evF_ssi, ex1_ex, ex1_nm, ex1_tp, ex1_par, ex1_ret, ex1_ret0, ex1_ite, ex1_sti, leD, ltD, geD, lenD, isD, isnD, isB, D.items, neD, eqD, eqB, one1, wipeR, hf, sizeLine_eq]
theorem r7 {φ : List O} {x : Int} (h1 : ∀ φ, callX Fb [.v ev1, .v (.int m)] φ = .ok (.v (.tup [.int x, R1])) φ) (h2 : ∀ φ, callX Fl [.v sc, .v (.int m)] φ = .ok (.v (.tup [.int x, R2])) φ) :
    exs [Fb, Fl, Ff, Ft, Fs, Fw, Fi, Fn, Fe, Fu, Fo] [.ret (.cmp .Eq (.ix (.call 0 [(.slot 4), (.slot 10)]) (.con (.int 0))) (.ix (.call 1 [(.slot 9), (.slot 10)]) (.con (.int 0))))] [.h 0, .v su, .h 1, s3, .v ev1, s5, s6, s7, s8, .v sc, .v (.int m), s11, s12, s13, s14, .u, .u, .u] φ = .ok (.rt (.v (.bl true))) φ := by
  simp -dsimp [exs, ev, evs, evP, evC, evT, opn, op2, op1, peek, peeks, truX, truth, biD, cmpD, binD, bindT, bindTs, frzX, frzXs, O.toD, X1.sl, ix_tup, ix_lst, ix_rls, atI_0, atI_1, atI_2, atI_3, gtD, modD, fdivD, intD, addD, subD, mulD, Ev.finish, powD, isiD, D.tyn, isT, evF_lst, evF_cat, evF_rep, evF_sl, evF_bil, evF_bis, evF_bid, evF_rng, evF_dnew, evF_ssi, ex1_ex, ex1_nm, ex1_tp, ex1_par, ex1_ret, ex1_ret0, ex1_ite, ex1_sti, leD, ltD, geD, lenD, isD, isnD, isB, D.items, neD, eqD, eqB, h1, h2]
end
theorem right_key {b : Nat} {o : O} (hP : PotB (b + 3000) o) : ∃ o' W, exs GR il_law_right [.h 0, .u, .u, .u, .u, .u, .u, .u, .u, .u, .u, .u, .u, .u, .u, .u, .u, .u] [o] = .ok (.rt (.v (.bl true))) (o' :: W) ∧ PotB b o' := by
  obtain ⟨d1, hd1, o1, e1, h1⟩ := of_call (b := b + 2999) (φ := [o]) (j := 0) (xs := [.int 1, .int 3, .int 9]) rfl hP (by simp -dsimp [exs, ev, evs, evP, evC, evT, opn, op2, op1, peek, peeks, truX, truth, biD, cmpD, binD, bindT, bindTs, frzX, frzXs, O.toD, X1.sl, ix_tup, ix_lst, ix_rls, atI_0, atI_1, atI_2, atI_3, gtD, modD, fdivD, intD, addD, subD, mulD, Ev.finish, powD, isiD, D.tyn, isT, evF_lst, evF_cat, evF_rep, evF_sl, evF_bil, evF_bis, evF_bid, evF_rng, evF_dnew, evF_ssi, ex1_ex, ex1_nm, ex1_tp, ex1_par, ex1_ret, ex1_ret0, ex1_ite, ex1_sti, leD, ltD, geD, lenD, isD, isnD, isB, D.items, neD, eqD, eqB]) (by simp -dsimp [exs, ev, evs, evP, evC, evT, opn, op2, op1, peek, peeks, truX, truth, biD, cmpD, binD, bindT, bindTs, frzX, frzXs, O.toD, X1.sl, ix_tup, ix_lst, ix_rls, atI_0, atI_1, atI_2, atI_3, gtD, modD, fdivD, intD, addD, subD, mulD, Ev.finish, powD, isiD, D.tyn, isT, evF_lst, evF_cat, evF_rep, evF_sl, evF_bil, evF_bis, evF_bid, evF_rng, evF_dnew, evF_ssi, ex1_ex, ex1_nm, ex1_tp, ex1_par, ex1_ret, ex1_ret0, ex1_ite, ex1_sti, leD, ltD, geD, lenD, isD, isnD, isB, D.items, neD, eqD, eqB])
  obtain ⟨wide, rfl, w0, w1⟩ : ∃ y, d1 = .int y ∧ 0 < y ∧ y ≤ 9 := by
    simp -dsimp only [List.mem_cons, List.not_mem_nil, or_false] at hd1
    rcases hd1 with rfl | rfl | rfl
    · exact ⟨_, rfl, by decide, by decide⟩
    · exact ⟨_, rfl, by decide, by decide⟩
    · exact ⟨_, rfl, by decide, by decide⟩
  obtain ⟨sm, o2, e2, h, h2⟩ := law_sums_ok (b := b + 2900) (h1.le (by omega)) w0 w1
  have hv := h.v
  have e2c : callX F_law_sums [.h 0, .v (.int wide)] [o1] = .ok (.v (.tup (sm.map prD))) [o2] := callX_p1 (j := 0) rfl h1.live e2
  have e3 : ∀ φ, callX F_law_least [.v (.tup (sm.map prD)), .v (.int 48)] φ = .ok (.h φ.length) (φ ++ [.lst (((List.range 49).map (L sm)).map D.int)]) := fun φ => callX_t2n (law_least_ok hv)
  unfold il_law_right
  rw [exs_nx (r1 e1 e2c), exs_nx (r2 e3)]
  have hI : evI GR (.rng1 (.con (.int 5))) [.h 0, .v (.tup (sm.map prD)), .h 1, .u, .u, .u, .u, .u, .u, .u, .u, .u, .u, .u, .u, .u, .u, .u] [o2, .lst (((List.range 49).map (L sm)).map D.int)] = .ok ⟨rngL 0 5, true, []⟩ [o2, .lst (((List.range 49).map (L sm)).map D.int)] := evI_rng1 (by simp -dsimp only [ev]) (by decide)
  obtain ⟨ρ', φ', e4, s3, s5, s6, s7, s8, s11, s12, s13, s14, o4, q4, p1, p2, h4⟩ := forL_inv (f := turnF GR (.nm 3) B_law_right_3) (fun j ρ φ => ∃ s3 s5 s6 s7 s8 s11 s12 s13 s14 o q, ρ = [.h 0, .v (.tup (sm.map prD)), .h 1, s3, .u, s5, s6, s7, s8, .u, .u, s11, s12, s13, s14, .u, .u, .u] ∧ φ = o :: .lst (((List.range 49).map (L sm)).map D.int) :: q ∧ PotB (b + 100 + 200 * (5 - j)) o) (rngL 0 5) 0 _ _ ⟨.u, .u, .u, .u, .u, .u, .u, .u, .u, o2, [], rfl, rfl, h2.le (by omega)⟩ (by
    rintro j d ρ φ hj ⟨s3, s5, s6, s7, s8, s11, s12, s13, s14, o, q, r1, r2, hq⟩
    obtain ⟨rfl, hj2⟩ := rngL_at hj
    have hj3 : j < 5 := by simpa using hj2
    rw [Nat.zero_add] at *
    subst r1 r2
    obtain ⟨s5', s6', s7', s8', s11', s12', s13', s14', o', q', e, h'⟩ := lap_ok (b := b + 100 + 200 * (5 - (j + 1))) (o := o) (q := q) h (lap := 0 + j) (s3 := s3) (s5 := s5) (s6 := s6) (s7 := s7) (s8 := s8) (s11 := s11) (s12 := s12) (s13 := s13) (s14 := s14) (hq.le (by omega))
    exact ⟨_, _, e, _, s5', s6', s7', s8', s11', s12', s13', s14', o', q', rfl, rfl, h'⟩)
  subst p1 p2
  rw [exs_nx (ex1_for hI e4)]
  generalize hLT : ((List.range 49).map (L sm)).map D.int = LT
  have hu : unlock ⟨rngL 0 5, true, []⟩ (o4 :: .lst LT :: q4) = o4 :: .lst LT :: q4 := rfl
  rw [hu]
  have hC2 : evF GR C_law_right_2 [.h 0, .v (.tup (sm.map prD)), .h 1, s3, .u, s5, s6, s7, s8, .u, .u, s11, s12, s13, s14, .u, .u, .u] (o4 :: .lst LT :: q4) = .ok (.lst ((sm.map fun _ => true).map D.bl)) (o4 :: .lst LT :: q4) := by
    unfold C_law_right_2
    rw [evF_comp2 (wk := ⟨sm.map prD, false, []⟩) (φ1 := o4 :: .lst LT :: q4) (g := fun _ => some (.bl true)) (by generalize GR = G; generalize sm.map prD = S; simp -dsimp [exs, ev, evs, evP, evC, evT, opn, op2, op1, peek, peeks, truX, truth, biD, cmpD, binD, bindT, bindTs, frzX, frzXs, O.toD, X1.sl, ix_tup, ix_lst, ix_rls, atI_0, atI_1, atI_2, atI_3, gtD, modD, fdivD, intD, addD, subD, mulD, Ev.finish, powD, isiD, D.tyn, isT, evF_lst, evF_cat, evF_rep, evF_sl, evF_bil, evF_bis, evF_bid, evF_rng, evF_dnew, evF_ssi, ex1_ex, ex1_nm, ex1_tp, ex1_par, ex1_ret, ex1_ret0, ex1_ite, ex1_sti, leD, ltD, geD, lenD, isD, isnD, isB, D.items, neD, eqD, eqB, evI, walkX, D.seqs]) (by rw [sizeLine_eq]; show (sm.map prD).length ≤ _; rw [List.length_map]; have := h.len; omega) (by
      intro d hd
      obtain ⟨p, hp, rfl⟩ := List.mem_map.mp hd
      have hb := h.bd p hp
      have hb2 := hv.bd p hp
      obtain ⟨r, hbel, _⟩ := below_call hv (n := p.1.toNat) (by omega)
      have ep : ((p.1.toNat : Nat) : Int) = p.1 := by omega
      rw [ep] at hbel
      exact r4_one hbel (L_own hv hp))]
    show R.ok (O.lst ((sm.map prD).filterMap _)) _ = _
    rw [List.filterMap_map, List.map_map]
    exact congrArg (fun l => R.ok (O.lst l) _) (fm_map sm fun a _ => rfl)
  have hA2 : allD [.lst ((sm.map fun _ => true).map D.bl)] = some (.bl true) := by
    rw [allD_bls, List.all_map]
    congr 2
    rw [List.all_eq_true]
    intro _ _; rfl
  rw [exs_nx (r4 hC2 hA2)]
  obtain ⟨sc, o5, e5, ⟨free, sts, most, rfl, f0, f4, hvt, hm⟩, h5⟩ := scale_ok (b := b + 1) (h4.le (by omega)) (by decide : (0 : Int) < 3) (by decide)
  have hs : Sc free sts most := ⟨f0, f4, hvt, hm⟩
  have e5c : callX F_law_scale [.h 0, .v (.int 3)] (o4 :: .lst LT :: q4) = .ok (.v (scD free sts most)) (o5 :: .lst LT :: q4) := callX_h1 (j := 0) [.int 3] rfl h4.live e5
  obtain ⟨mm, o6, e6, a6, b6, h6⟩ := take_call (b := b) (φ := o5 :: .lst LT :: q4) (j := 0) (u := 30) rfl h5 (by decide) (by decide)
  obtain ⟨m0, rfl⟩ := Int.eq_ofNat_of_zero_le a6
  rw [exs_nx (r5 e5c e6)]
  have em : (1 : Int) + (m0 : Nat) = ((m0 + 1 : Nat) : Int) := by omega
  have hve := evy_v hs (m := m0 + 1) (by omega) (by omega)
  have hC1 : evF GR C_law_right_1 [.h 0, .v (.tup (sm.map prD)), .h 1, s3, .u, s5, s6, s7, s8, .v (scD free sts most), .v (.int (1 + (m0 : Nat))), s11, s12, s13, s14, .u, .u, .u] (o6 :: .lst LT :: q4) = .ok (.lst ((evy (cst free sts most) (m0 + 1)).map prD)) (o6 :: .lst LT :: q4) := by
    unfold C_law_right_1
    rw [evF_comp2 (wk := ⟨rngL 1 (1 + (m0 : Nat) + 1), true, []⟩) (φ1 := o6 :: .lst LT :: q4) (g := fun d => some (.tup [.int (iv d), .int (cst free sts most (iv d).toNat)])) (by generalize GR = G; generalize sm.map prD = S; exact evI_rng2 (by simp -dsimp [exs, ev, evs, evP, evC, evT, opn, op2, op1, peek, peeks, truX, truth, biD, cmpD, binD, bindT, bindTs, frzX, frzXs, O.toD, X1.sl, ix_tup, ix_lst, ix_rls, atI_0, atI_1, atI_2, atI_3, gtD, modD, fdivD, intD, addD, subD, mulD, Ev.finish, powD, isiD, D.tyn, isT, evF_lst, evF_cat, evF_rep, evF_sl, evF_bil, evF_bis, evF_bid, evF_rng, evF_dnew, evF_ssi, ex1_ex, ex1_nm, ex1_tp, ex1_par, ex1_ret, ex1_ret0, ex1_ite, ex1_sti, leD, ltD, geD, lenD, isD, isnD, isB, D.items, neD, eqD, eqB]) (by simp -dsimp [exs, ev, evs, evP, evC, evT, opn, op2, op1, peek, peeks, truX, truth, biD, cmpD, binD, bindT, bindTs, frzX, frzXs, O.toD, X1.sl, ix_tup, ix_lst, ix_rls, atI_0, atI_1, atI_2, atI_3, gtD, modD, fdivD, intD, addD, subD, mulD, Ev.finish, powD, isiD, D.tyn, isT, evF_lst, evF_cat, evF_rep, evF_sl, evF_bil, evF_bis, evF_bid, evF_rng, evF_dnew, evF_ssi, ex1_ex, ex1_nm, ex1_tp, ex1_par, ex1_ret, ex1_ret0, ex1_ite, ex1_sti, leD, ltD, geD, lenD, isD, isnD, isB, D.items, neD, eqD, eqB]) (by decide) (inRng_of (by omega) (by omega))) (by rw [sizeLine_eq]; show (rngL _ _).length ≤ _; rw [rngL_len]; omega) (by
      intro d hd
      obtain ⟨i, rfl, i1, i2⟩ := rngL_mem hd
      exact r6_one (fine_call hs (by omega) (by omega)))]
    show R.ok (O.lst ((rngL 1 (1 + (m0 : Nat) + 1)).filterMap _)) _ = _
    have e : (rngL 1 (1 + (m0 : Nat) + 1)).filterMap (fun d => some (D.tup [.int (iv d), .int (cst free sts most (iv d).toNat)])) = (evy (cst free sts most) (m0 + 1)).map prD := by
      unfold rngL evy
      have e0 : ((1 : Int) + (m0 : Nat) + 1 - 1).toNat = m0 + 1 := by omega
      rw [e0, List.filterMap_map, List.map_map]
      refine fm_map _ fun j _ => ?_
      show some (D.tup [.int (1 + (j : Int)), .int (cst free sts most (1 + (j : Int)).toNat)]) = some (D.tup [.int ((j : Int) + 1), .int (cst free sts most (j + 1))])
      have z1 : (1 + (j : Int)).toNat = j + 1 := by omega
      rw [z1, Int.add_comm]
    rw [e]; rfl
  rw [exs_nx (r6 hC1 rfl)]
  obtain ⟨ra, hba, _⟩ := below_call hve (n := m0 + 1) (by omega)
  obtain ⟨rb, hbb⟩ := least_cut_call hs (n := m0 + 1) (by omega) (by omega)
  have eL := L_B hve (cst_mono hs) (m0 + 1) (Nat.le_refl _)
  rw [eL, ← em] at hba
  rw [← em] at hbb
  exact ⟨o6, _, r7 hba hbb, h6⟩
theorem right_call {b : Nat} {o : O} {φ : List O} {j : Nat} (hj : φ[j]? = some o) (hP : PotB (b + 3000) o) : ∃ o', callX F_law_right [.h j] φ = .ok (.v (.bl true)) (φ.set j o') ∧ PotB b o' := by
  obtain ⟨o', W, e, h⟩ := right_key hP
  exact ⟨o', callX_p0 hj hP.live (evFn_v (φ := [o]) e ⟨rfl, by decide⟩ rfl), h⟩
end K38
namespace K38
open PySem Ev
theorem callX_t2new {F : FSem} {a a' : D} {o : O} {φ : List O} (h : F [.v a, .v a'] [] = .ok (.h 0) [o]) : callX F [.v a, .v a'] φ = .ok (.h φ.length) (φ ++ [o]) := by
  have e : (hsOf ([X1.v a, X1.v a'].map (resX φ))) = [] := rfl
  have e2 : (renum ([X1.v a, X1.v a'].map (resX φ)) 0) = [.v a, .v a'] := rfl
  unfold callX
  simp -dsimp only [e, e2, List.nodup_nil, if_true, pick, h]
  rfl
theorem cells_call (ns : List Int) (hl : ns.length ≤ 63) (φ : List O) : ∃ n : Int, 0 ≤ n ∧ n ≤ 2 ∧ callX F_law_cells [.v (.rls (ns.map D.int)), .v (.int 2)] φ = .ok (.v (.lst (rngL 0 n))) φ := by
  refine ⟨max 1 (min 2 ns.length), by omega, by omega, callX_a2 (ψ := []) ?_⟩
  have h1 : inRng 0 = true := by decide
  have h2 : inRng (max 1 (min 2 (ns.length : Int))) = true := by unfold inRng; simp -dsimp [exs, ev, evs, evP, evC, evT, opn, op2, op1, peek, peeks, truX, truth, biD, cmpD, binD, evI, bindT, bindTs, frzX, frzXs, O.toD, X1.sl, ix_tup, ix_lst, ix_rls, atI_0, atI_1, atI_2, atI_3, gtD, modD, fdivD, intD, addD, subD, mulD, Ev.finish, powD, isiD, D.tyn, isT, evF_lst, evF_cat, evF_rep, evF_sl, evF_bil, evF_bis, evF_bid, evF_rng, evF_dnew, evF_ssi, ex1_ex, ex1_nm, ex1_tp, ex1_par, ex1_ret, ex1_ret0, ex1_ite, ex1_sti, leD, ltD, geD, lenD, isD, isnD, isB, D.items, neD, eqD, eqB]; omega
  have h3 : (max 1 (min 2 (ns.length : Int)) - 0).toNat ≤ 2 ^ 24 := by omega
  unfold F_law_cells evFn il_law_cells
  simp -dsimp [exs, ev, evs, evP, evC, evT, opn, op2, op1, peek, peeks, truX, truth, biD, cmpD, binD, evI, bindT, bindTs, frzX, frzXs, O.toD, X1.sl, ix_tup, ix_lst, ix_rls, atI_0, atI_1, atI_2, atI_3, gtD, modD, fdivD, intD, addD, subD, mulD, Ev.finish, powD, isiD, D.tyn, isT, evF_lst, evF_cat, evF_rep, evF_sl, evF_bil, evF_bis, evF_bid, evF_rng, evF_dnew, evF_ssi, ex1_ex, ex1_nm, ex1_tp, ex1_par, ex1_ret, ex1_ret0, ex1_ite, ex1_sti, leD, ltD, geD, lenD, isD, isnD, isB, D.items, neD, eqD, eqB, minD, maxD, h1, h2]
  simp -dsimp [exs, ev, evs, evP, evC, evT, opn, op2, op1, peek, peeks, truX, truth, biD, cmpD, binD, evI, bindT, bindTs, frzX, frzXs, O.toD, X1.sl, ix_tup, ix_lst, ix_rls, atI_0, atI_1, atI_2, atI_3, gtD, modD, fdivD, intD, addD, subD, mulD, Ev.finish, powD, isiD, D.tyn, isT, evF_lst, evF_cat, evF_rep, evF_sl, evF_bil, evF_bis, evF_bid, evF_rng, evF_dnew, evF_ssi, ex1_ex, ex1_nm, ex1_tp, ex1_par, ex1_ret, ex1_ret0, ex1_ite, ex1_sti, leD, ltD, geD, lenD, isD, isnD, isB, D.items, neD, eqD, eqB] at h3
  simp -dsimp [exs, ev, evs, evP, evC, evT, opn, op2, op1, peek, peeks, truX, truth, biD, cmpD, binD, evI, bindT, bindTs, frzX, frzXs, O.toD, X1.sl, ix_tup, ix_lst, ix_rls, atI_0, atI_1, atI_2, atI_3, gtD, modD, fdivD, intD, addD, subD, mulD, Ev.finish, powD, isiD, D.tyn, isT, evF_lst, evF_cat, evF_rep, evF_sl, evF_bil, evF_bis, evF_bid, evF_rng, evF_dnew, evF_ssi, ex1_ex, ex1_nm, ex1_tp, ex1_par, ex1_ret, ex1_ret0, ex1_ite, ex1_sti, leD, ltD, geD, lenD, isD, isnD, isB, D.items, neD, eqD, eqB, h3]
theorem pot_ok {p : Int} (hp : p = 0 ∨ p = 1) (ns : List Int) (hl : ns.length ≤ 63) : ∃ o, F_law_pot [.v (.rls (ns.map D.int)), .v (.int p)] [] = .ok (.h 0) [o] ∧ PotB (2 ^ 20) o := by
  have w1 : powOk 10 60 = true := by decide
  have w2 : powOk (10 ^ 60) 5 = true := by decide
  have w3 : powOk 10 18 = true := by decide
  have main : ∀ cell : Int, ∃ o, exs [] [
  .asg (.nm 3) (.bin .Mult (.bin .Mod (.bi .int [(.bi .abs [(.slot 2)])]) (.bin .Pow (.bin .Pow (.con (.int 10)) (.con (.int 60))) (.con (.int 5)))) (.bi .int [(.cmp .GtE (.bi .abs [(.slot 2)]) (.bin .Pow (.con (.int 10)) (.con (.int 18))))])),
  .asg (.nm 4) (.bin .Mod (.bi .int [(.slot 2)]) (.con (.int 2305843009213693951))),
  .ret (.new (.lst [(.slot 3), (.bin .Mod (.bi .int [(.bin .Add (.bin .Add (.bin .Mult (.slot 4) (.con (.int 66681))) (.bin .Mult (.bin .Mult (.con (.int 5333)) (.slot 1)) (.slot 1))) (.con (.int 981)))]) (.con (.int 2305843009213693921))), (.con (.int 0))]))] [.v (.rls (ns.map D.int)), .v (.int p), .v (.int cell), .u, .u] [] = .ok (.rt (.h 0)) [o] ∧ PotB (2 ^ 20) o := by
    intro cell
    have f1 := Int.fmod_nonneg_of_pos cell (b := 2305843009213693951) (by decide)
    have f2 := Int.fmod_lt_of_pos cell (b := 2305843009213693951) (by decide)
    have g : ∀ x : Int, 0 ≤ x.fmod 2305843009213693921 ∧ x.fmod 2305843009213693921 < 2 ^ 61 := fun x => by
      have g1 := Int.fmod_nonneg_of_pos x (b := 2305843009213693921) (by decide)
      have g2 := Int.fmod_lt_of_pos x (b := 2305843009213693921) (by decide)
      omega
    have m1 : ∀ x, mulOk x 66681 = true := fun x => mul_ok_r (by decide)
    have m2 : ∀ x, mulOk x 0 = true := fun x => mul_ok_r (by decide)
    have m3 : ∀ x, mulOk x 1 = true := fun x => mul_ok_r (by decide)
    have fin : ∀ p0 p1 : Int, 0 ≤ p1 ∧ p1 < 2 ^ 61 → PotB (2 ^ 20) (.lst [.int p0, .int p1, .int 0]) := fun p0 p1 h => ⟨p0, p1, 0, rfl, h.1, h.2, by decide, by decide⟩
    have st1 : ∃ own : Int, ex1 [] (.asg (.nm 3) (.bin .Mult (.bin .Mod (.bi .int [(.bi .abs [(.slot 2)])]) (.bin .Pow (.bin .Pow (.con (.int 10)) (.con (.int 60))) (.con (.int 5)))) (.bi .int [(.cmp .GtE (.bi .abs [(.slot 2)]) (.bin .Pow (.con (.int 10)) (.con (.int 18))))]))) [.v (.rls (ns.map D.int)), .v (.int p), .v (.int cell), .u, .u] [] = .ok (.nx [.v (.rls (ns.map D.int)), .v (.int p), .v (.int cell), .v (.int own), .u]) [] := by
      generalize hA : (if cell < 0 then -cell else cell) = A
      have ha : absD [.int cell] = some (.int A) := by rw [← hA]; rfl
      have hm : ∃ z, modD (.int A) (.int ((10 ^ 60) ^ 5)) = some (.int z) := ⟨A.fmod ((10 ^ 60) ^ 5), by
        simp -dsimp only [modD]
        rw [if_pos (by decide)]⟩
      obtain ⟨z, hm⟩ := hm
      have hp1 : powD (.int 10) (.int 60) = some (.int (10 ^ 60)) := by simp -dsimp only [powD, w1, if_true]; rfl
      have hp2 : powD (.int (10 ^ 60)) (.int 5) = some (.int ((10 ^ 60) ^ 5)) := by simp -dsimp only [powD, w2, if_true]; rfl
      have hp3 : powD (.int 10) (.int 18) = some (.int (10 ^ 18)) := by simp -dsimp only [powD, w3, if_true]; rfl
      generalize h1 : (10 ^ 60 : Int) = t1 at *
      generalize h2 : (t1 ^ 5 : Int) = t2 at *
      generalize h3 : (10 ^ 18 : Int) = t3 at *
      by_cases hc : t3 ≤ A
      · refine ⟨z * 1, ?_⟩
        have q := m3 z
        simp -dsimp [exs, ev, evs, evP, evC, evT, opn, op2, op1, peek, peeks, truX, truth, biD, cmpD, binD, evI, bindT, bindTs, frzX, frzXs, O.toD, X1.sl, ix_tup, ix_lst, ix_rls, atI_0, atI_1, atI_2, atI_3, gtD, fdivD, intD, addD, subD, mulD, Ev.finish, isiD, D.tyn, isT, evF_lst, evF_cat, evF_rep, evF_sl, evF_bil, evF_bis, evF_bid, evF_rng, evF_dnew, evF_ssi, ex1_ex, ex1_nm, ex1_tp, ex1_par, ex1_ret, ex1_ret0, ex1_ite, ex1_sti, leD, ltD, geD, lenD, isD, isnD, isB, D.items, neD, eqD, eqB, ha, hm, hp1, hp2, hp3, hc, q]
      · refine ⟨z * 0, ?_⟩
        have q := m2 z
        simp -dsimp [exs, ev, evs, evP, evC, evT, opn, op2, op1, peek, peeks, truX, truth, biD, cmpD, binD, evI, bindT, bindTs, frzX, frzXs, O.toD, X1.sl, ix_tup, ix_lst, ix_rls, atI_0, atI_1, atI_2, atI_3, gtD, fdivD, intD, addD, subD, mulD, Ev.finish, isiD, D.tyn, isT, evF_lst, evF_cat, evF_rep, evF_sl, evF_bil, evF_bis, evF_bid, evF_rng, evF_dnew, evF_ssi, ex1_ex, ex1_nm, ex1_tp, ex1_par, ex1_ret, ex1_ret0, ex1_ite, ex1_sti, leD, ltD, geD, lenD, isD, isnD, isB, D.items, neD, eqD, eqB, ha, hm, hp1, hp2, hp3, hc, q]
    obtain ⟨own, st1⟩ := st1
    have m4 : mulOk 5333 p = true := mul_ok_l (by decide)
    have m5 : mulOk (5333 * p) p = true := mul_ok_r (by omega)
    rw [exs_nx st1]
    rw [exs_nx (ρ1 := [.v (.rls (ns.map D.int)), .v (.int p), .v (.int cell), .v (.int own), .v (.int (cell.fmod 2305843009213693951))]) (φ1 := []) (by simp -dsimp [exs, ev, evs, evP, evC, evT, opn, op2, op1, peek, peeks, truX, truth, biD, cmpD, binD, evI, bindT, bindTs, frzX, frzXs, O.toD, X1.sl, ix_tup, ix_lst, ix_rls, atI_0, atI_1, atI_2, atI_3, gtD, modD, fdivD, intD, addD, subD, mulD, Ev.finish, powD, isiD, D.tyn, isT, evF_lst, evF_cat, evF_rep, evF_sl, evF_bil, evF_bis, evF_bid, evF_rng, evF_dnew, evF_ssi, ex1_ex, ex1_nm, ex1_tp, ex1_par, ex1_ret, ex1_ret0, ex1_ite, ex1_sti, leD, ltD, geD, lenD, isD, isnD, isB, D.items, neD, eqD, eqB])]
    refine ⟨_, ?_, fin own _ (g (cell.fmod 2305843009213693951 * 66681 + 5333 * p * p + 981))⟩
    simp -dsimp [exs, ev, evs, evP, evC, evT, opn, op2, op1, peek, peeks, truX, truth, biD, cmpD, binD, evI, bindT, bindTs, frzX, frzXs, O.toD, X1.sl, ix_tup, ix_lst, ix_rls, atI_0, atI_1, atI_2, atI_3, gtD, modD, fdivD, intD, addD, subD, mulD, Ev.finish, powD, isiD, D.tyn, isT, evF_lst, evF_cat, evF_rep, evF_sl, evF_bil, evF_bis, evF_bid, evF_rng, evF_dnew, evF_ssi, ex1_ex, ex1_nm, ex1_tp, ex1_par, ex1_ret, ex1_ret0, ex1_ite, ex1_sti, leD, ltD, geD, lenD, isD, isnD, isB, D.items, neD, eqD, eqB, m1, m4, m5, sizeLine_eq]
  unfold F_law_pot evFn il_law_pot
  simp -dsimp only [List.length_cons, List.length_nil, Nat.reduceAdd, Nat.reduceLeDiff, and_self, if_true]
  have first : ∃ cell : Int, ex1 [] (.asg (.nm 2) (.ifx (.cmp .Lt (.slot 1) (.bi .len [(.slot 0)])) (.ix (.slot 0) (.slot 1)) (.bin .Add (.bin .Add (.bin .Mod (.bi .sum [(.sl (.slot 0) none (some (.con (.int 1))))]) (.con (.int 1000003))) (.bin .Mult (.con (.int 8415)) (.slot 1))) (.con (.int 5025))))) [.v (.rls (ns.map D.int)), .v (.int p), .u, .u, .u] [] = .ok (.nx [.v (.rls (ns.map D.int)), .v (.int p), .v (.int cell), .u, .u]) [] := by
    by_cases hq : p < ns.length
    · have : p.toNat < ns.length := by omega
      refine ⟨ns[p.toNat], ?_⟩
      have hix : L2.atI (ns.map D.int) p = some (.int ns[p.toNat]) := by
        rw [atI_of (by omega), List.getElem?_map, List.getElem?_eq_getElem this]; rfl
      simp -dsimp [exs, ev, evs, evP, evC, evT, opn, op2, op1, peek, peeks, truX, truth, biD, cmpD, binD, evI, bindT, bindTs, frzX, frzXs, O.toD, X1.sl, ix_tup, ix_lst, ix_rls, atI_0, atI_1, atI_2, atI_3, gtD, modD, fdivD, intD, addD, subD, mulD, Ev.finish, powD, isiD, D.tyn, isT, evF_lst, evF_cat, evF_rep, evF_sl, evF_bil, evF_bis, evF_bid, evF_rng, evF_dnew, evF_ssi, ex1_ex, ex1_nm, ex1_tp, ex1_par, ex1_ret, ex1_ret0, ex1_ite, ex1_sti, leD, ltD, geD, lenD, isD, isnD, isB, D.items, neD, eqD, eqB, hq, hix]
    · have hsl : slD (.rls (ns.map D.int)) none (some 1) = some (.lst ((ns.take 1).map D.int)) := by
        show some (D.lst (cut _ none (some ((1 : Nat) : Int)))) = _
        rw [cut_to, List.map_take]
      have hmul : mulOk 8415 p = true := mul_ok_l (by decide)
      have hsum : sumD [.lst ((ns.take 1).map D.int)] = some (.int (ns.take 1).sum) := by
        simp -dsimp only [sumD, D.allInts_map, Option.map_some]
      refine ⟨(ns.take 1).sum.fmod 1000003 + 8415 * p + 5025, ?_⟩
      simp -dsimp [exs, ev, evs, evP, evC, evT, opn, op2, op1, peek, peeks, truX, truth, biD, cmpD, binD, evI, bindT, bindTs, frzX, frzXs, O.toD, X1.sl, ix_tup, ix_lst, ix_rls, atI_0, atI_1, atI_2, atI_3, gtD, modD, fdivD, intD, addD, subD, mulD, Ev.finish, powD, isiD, D.tyn, isT, evF_lst, evF_cat, evF_rep, evF_sl, evF_bil, evF_bis, evF_bid, evF_rng, evF_dnew, evF_ssi, ex1_ex, ex1_nm, ex1_tp, ex1_par, ex1_ret, ex1_ret0, ex1_ite, ex1_sti, leD, ltD, geD, lenD, isD, isnD, isB, D.items, neD, eqD, eqB, hq, hsl, hmul, hsum, -List.map_take]
  obtain ⟨cell, e1⟩ := first
  obtain ⟨o, e2, h⟩ := main cell
  refine ⟨o, ?_, h⟩
  show Ev.R.bind (exs [] _ [.v (.rls (ns.map D.int)), .v (.int p), .u, .u, .u] []) _ = _
  rw [exs_nx e1, e2]
  obtain ⟨p0, p1, p2, rfl, _⟩ := h
  rfl
theorem pot_call {p : Int} (hp : p = 0 ∨ p = 1) (ns : List Int) (hl : ns.length ≤ 63) (φ : List O) : ∃ o, callX F_law_pot [.v (.rls (ns.map D.int)), .v (.int p)] φ = .ok (.h φ.length) (φ ++ [o]) ∧ PotB (2 ^ 20) o := by
  obtain ⟨o, e, h⟩ := pot_ok hp ns hl
  exact ⟨o, callX_t2new e, h⟩
theorem rights (ρ : List Sl) {b : Nat} {j : Nat} (h2 : ρ[2]? = some (.h j)) (h3 : 3 < ρ.length) : ∀ (n : Nat) (ds : List D) (φ : List O) (o : O), ds.length = n → φ[j]? = some o → PotB (b + 3000 * n) o → ∃ φ', compL (one1 [3] (.nm 3) (fun ρ1 φ2 => evC [F_law_cells, F_law_right, F_law_pot] none ρ1 φ2) (fun ρ1 φ2 => ev [F_law_cells, F_law_right, F_law_pot] (.call 1 [(.slot 2)]) ρ1 φ2) ρ) ds φ = .ok (List.replicate n (.bl true)) φ'
  | 0, [], φ, o, _, _, _ => ⟨φ, rfl⟩
  | n + 1, d :: ds, φ, o, hl, hj, hP => by
    obtain ⟨o', e, hP'⟩ := right_call (b := b + 3000 * n) hj (hP.le (by omega))
    have hj' : (φ.set j o')[j]? = some o' := by rw [List.getElem?_set_self (List.getElem?_eq_some_iff.mp hj).1]
    obtain ⟨φ', e2⟩ := rights ρ h2 h3 n ds (φ.set j o') o' (by simpa using hl) hj' hP'
    refine ⟨φ', ?_⟩
    have e1 : one1 [3] (.nm 3) (fun ρ1 φ2 => evC [F_law_cells, F_law_right, F_law_pot] none ρ1 φ2) (fun ρ1 φ2 => ev [F_law_cells, F_law_right, F_law_pot] (.call 1 [(.slot 2)]) ρ1 φ2) ρ d φ = .ok (some (.bl true)) (φ.set j o') := by
      have q : ((ρ.set 3 .u).set 3 (.v d))[2]? = some (.h j) := by
        rw [List.getElem?_set_ne (by decide), List.getElem?_set_ne (by decide), h2]
      simp -dsimp [exs, ev, evs, evP, evC, evT, opn, op2, op1, peek, peeks, truX, truth, biD, cmpD, binD, evI, bindT, bindTs, frzX, frzXs, O.toD, X1.sl, ix_tup, ix_lst, ix_rls, atI_0, atI_1, atI_2, atI_3, gtD, modD, fdivD, intD, addD, subD, mulD, Ev.finish, powD, isiD, D.tyn, isT, evF_lst, evF_cat, evF_rep, evF_sl, evF_bil, evF_bis, evF_bid, evF_rng, evF_dnew, evF_ssi, ex1_ex, ex1_nm, ex1_tp, ex1_par, ex1_ret, ex1_ret0, ex1_ite, ex1_sti, leD, ltD, geD, lenD, isD, isnD, isB, D.items, neD, eqD, eqB, one1, wipeR, h3, h2, e]
    simp -dsimp only [compL, e1, R.bind_ok, e2]
    rfl
theorem main_law (ns : List Int) (hl : ns.length ≤ 63) : ∃ φ, F_law [.v (.rls (ns.map D.int))] [] = .ok (.v (.bl true)) φ := by
  obtain ⟨n, n0, n2, e0⟩ := cells_call ns hl []
  unfold F_law evFn il_law
  simp -dsimp only [List.length_cons, List.length_nil, Nat.reduceAdd, Nat.reduceLeDiff, and_self, if_true]
  have hI : evI [F_law_cells, F_law_right, F_law_pot] (.seq (.call 0 [(.slot 0), (.con (.int 2))])) [.v (.rls (ns.map D.int)), .u, .u, .u] [] = .ok ⟨rngL 0 n, true, []⟩ [] := by
    simp -dsimp [exs, ev, evs, evP, evC, evT, opn, op2, op1, peek, peeks, truX, truth, biD, cmpD, binD, evI, bindT, bindTs, frzX, frzXs, O.toD, X1.sl, ix_tup, ix_lst, ix_rls, atI_0, atI_1, atI_2, atI_3, gtD, modD, fdivD, intD, addD, subD, mulD, Ev.finish, powD, isiD, D.tyn, isT, evF_lst, evF_cat, evF_rep, evF_sl, evF_bil, evF_bis, evF_bid, evF_rng, evF_dnew, evF_ssi, ex1_ex, ex1_nm, ex1_tp, ex1_par, ex1_ret, ex1_ret0, ex1_ite, ex1_sti, leD, ltD, geD, lenD, isD, isnD, isB, D.items, neD, eqD, eqB, e0, walkX, D.seqs, -List.map_map]
  obtain ⟨ρ', φ', e, s1, s2, r1⟩ := forL_inv (f := turnF [F_law_cells, F_law_right, F_law_pot] (.nm 1) [
    .asg (.nm 2) (.call 2 [(.slot 0), (.slot 1)]),
    .ite (.not (.bi .all [(.frz (.comp [3] (.nm 3) (.rng1 (.con (.int 4))) none (.call 1 [(.slot 2)])))])) [
      .ret (.con (.bl false))] []]) (fun j ρ φ => ∃ s1 s2, ρ = [.v (.rls (ns.map D.int)), s1, s2, .u]) (rngL 0 n) 0 [.v (.rls (ns.map D.int)), .u, .u, .u] [] ⟨.u, .u, rfl⟩ (by
    rintro j d ρ φ hj ⟨s1, s2, r1⟩
    obtain ⟨rfl, hj2⟩ := rngL_at hj
    have hj3 : j < 2 := by omega
    subst r1
    obtain ⟨o, e1, hP⟩ := pot_call (p := 0 + j) (by omega) ns hl φ
    obtain ⟨φ', e2⟩ := rights [.v (.rls (ns.map D.int)), .v (.int (0 + j)), .h φ.length, .u] (b := 0) (j := φ.length) rfl (by simp -dsimp [exs, ev, evs, evP, evC, evT, opn, op2, op1, peek, peeks, truX, truth, biD, cmpD, binD, evI, bindT, bindTs, frzX, frzXs, O.toD, X1.sl, ix_tup, ix_lst, ix_rls, atI_0, atI_1, atI_2, atI_3, gtD, modD, fdivD, intD, addD, subD, mulD, Ev.finish, powD, isiD, D.tyn, isT, evF_lst, evF_cat, evF_rep, evF_sl, evF_bil, evF_bis, evF_bid, evF_rng, evF_dnew, evF_ssi, ex1_ex, ex1_nm, ex1_tp, ex1_par, ex1_ret, ex1_ret0, ex1_ite, ex1_sti, leD, ltD, geD, lenD, isD, isnD, isB, D.items, neD, eqD, eqB]) 4 (rngL 0 4) (φ ++ [o]) o rfl (by simp -dsimp [exs, ev, evs, evP, evC, evT, opn, op2, op1, peek, peeks, truX, truth, biD, cmpD, binD, evI, bindT, bindTs, frzX, frzXs, O.toD, X1.sl, ix_tup, ix_lst, ix_rls, atI_0, atI_1, atI_2, atI_3, gtD, modD, fdivD, intD, addD, subD, mulD, Ev.finish, powD, isiD, D.tyn, isT, evF_lst, evF_cat, evF_rep, evF_sl, evF_bil, evF_bis, evF_bid, evF_rng, evF_dnew, evF_ssi, ex1_ex, ex1_nm, ex1_tp, ex1_par, ex1_ret, ex1_ret0, ex1_ite, ex1_sti, leD, ltD, geD, lenD, isD, isnD, isB, D.items, neD, eqD, eqB]) (hP.le (by decide))
    have hc : evF [F_law_cells, F_law_right, F_law_pot] (.comp [3] (.nm 3) (.rng1 (.con (.int 4))) none (.call 1 [(.slot 2)])) [.v (.rls (ns.map D.int)), .v (.int (0 + j)), .h φ.length, .u] (φ ++ [o]) = .ok (.lst (List.replicate 4 (.bl true))) φ' := by
      have hI2 : evI [F_law_cells, F_law_right, F_law_pot] (.rng1 (.con (.int 4))) [.v (.rls (ns.map D.int)), .v (.int (0 + j)), .h φ.length, .u] (φ ++ [o]) = .ok ⟨rngL 0 4, true, []⟩ (φ ++ [o]) := by simp -dsimp [exs, ev, evs, evP, evC, evT, opn, op2, op1, peek, peeks, truX, truth, biD, cmpD, binD, evI, bindT, bindTs, frzX, frzXs, O.toD, X1.sl, ix_tup, ix_lst, ix_rls, atI_0, atI_1, atI_2, atI_3, gtD, modD, fdivD, intD, addD, subD, mulD, Ev.finish, powD, isiD, D.tyn, isT, evF_lst, evF_cat, evF_rep, evF_sl, evF_bil, evF_bis, evF_bid, evF_rng, evF_dnew, evF_ssi, ex1_ex, ex1_nm, ex1_tp, ex1_par, ex1_ret, ex1_ret0, ex1_ite, ex1_sti, leD, ltD, geD, lenD, isD, isnD, isB, D.items, neD, eqD, eqB, inRng]
      rw [evF, hI2]
      simp -dsimp only [R.bind_ok, compX]
      rw [if_pos (by rw [rngL_len, sizeLine_eq]; decide), e2]
      rfl
    refine ⟨[.v (.rls (ns.map D.int)), .v (.int (0 + j)), .h φ.length, .u], φ', ?_, _, _, rfl⟩
    unfold turnF
    simp -dsimp only [bindT]
    rw [if_pos (by simp -dsimp [exs, ev, evs, evP, evC, evT, opn, op2, op1, peek, peeks, truX, truth, biD, cmpD, binD, evI, bindT, bindTs, frzX, frzXs, O.toD, X1.sl, ix_tup, ix_lst, ix_rls, atI_0, atI_1, atI_2, atI_3, gtD, modD, fdivD, intD, addD, subD, mulD, Ev.finish, powD, isiD, D.tyn, isT, evF_lst, evF_cat, evF_rep, evF_sl, evF_bil, evF_bis, evF_bid, evF_rng, evF_dnew, evF_ssi, ex1_ex, ex1_nm, ex1_tp, ex1_par, ex1_ret, ex1_ret0, ex1_ite, ex1_sti, leD, ltD, geD, lenD, isD, isnD, isB, D.items, neD, eqD, eqB])]
    show exs _ _ [.v (.rls (ns.map D.int)), .v (.int (0 + j)), s2, .u] _ = _
    rw [exs_nx (ρ1 := [.v (.rls (ns.map D.int)), .v (.int (0 + j)), .h φ.length, .u]) (φ1 := φ ++ [o]) (by
      have e1' := e1
      simp -dsimp only [Int.zero_add] at e1' ⊢
      simp -dsimp [exs, ev, evs, evP, evC, evT, opn, op2, op1, peek, peeks, truX, truth, biD, cmpD, binD, evI, bindT, bindTs, frzX, frzXs, O.toD, X1.sl, ix_tup, ix_lst, ix_rls, atI_0, atI_1, atI_2, atI_3, gtD, modD, fdivD, intD, addD, subD, mulD, Ev.finish, powD, isiD, D.tyn, isT, evF_lst, evF_cat, evF_rep, evF_sl, evF_bil, evF_bis, evF_bid, evF_rng, evF_dnew, evF_ssi, ex1_ex, ex1_nm, ex1_tp, ex1_par, ex1_ret, ex1_ret0, ex1_ite, ex1_sti, leD, ltD, geD, lenD, isD, isnD, isB, D.items, neD, eqD, eqB, e1', -List.map_map])]
    rw [exs_nx (ρ1 := [.v (.rls (ns.map D.int)), .v (.int (0 + j)), .h φ.length, .u]) (φ1 := φ') (by
      rw [ex1_ite]
      simp -dsimp only [Int.zero_add] at hc ⊢
      simp -dsimp [exs, ev, evs, evP, evC, evT, opn, op2, op1, peek, peeks, truX, truth, biD, cmpD, binD, evI, bindT, bindTs, frzX, frzXs, O.toD, X1.sl, ix_tup, ix_lst, ix_rls, atI_0, atI_1, atI_2, atI_3, gtD, modD, fdivD, intD, addD, subD, mulD, Ev.finish, powD, isiD, D.tyn, isT, evF_lst, evF_cat, evF_rep, evF_sl, evF_bil, evF_bis, evF_bid, evF_rng, evF_dnew, evF_ssi, ex1_ex, ex1_nm, ex1_tp, ex1_par, ex1_ret, ex1_ret0, ex1_ite, ex1_sti, leD, ltD, geD, lenD, isD, isnD, isB, D.items, neD, eqD, eqB, hc, allD, D.allBls, List.replicate])]
    rfl)
  subst r1
  refine ⟨[], ?_⟩
  show Ev.R.bind (exs [F_law_cells, F_law_right, F_law_pot] _ [.v (.rls (ns.map D.int)), .u, .u, .u] []) _ = _
  rw [exs_nx (ex1_for hI e)]
  rfl
end K38
open PySem PySem.W PyProof.Rows
set_option maxHeartbeats 0 in
theorem PySem.Challenge.cw_booksdue_k38_whole_the_greatest_rule_bel_holds : PySem.Challenge.rw_booksdue_k38_whole_the_greatest_rule_bel.Holds := by
  w_on; o_law; k_head; (case hw => w_witness2)
  k_fill
  refine Ev.walk_ofG (l := PySem.Challenge.rw_booksdue_k38_whole_the_greatest_rule_bel) (n := 63) (k := 8) (x := "script") (CX := fun w => L2.CX PySem.Challenge.rw_booksdue_k38_whole_the_greatest_rule_bel.prog w) (sp := fun w => Ev.spLaw _ 63) rfl (by decide) rfl ⟨rfl, by decide, by decide⟩ (fun w h Y => PySem.W.kIn_of Y) ?F (fun _ H a ns hl ho hS => ⟨a, ns, rfl, Ev.rdl_of ho hS, hl, fun _ => rfl⟩) (fun w H s e s' h => Ev.cx_end h)
  case F =>
    intro w mg fa h KX G hmg
    refine' K38.all_law K38.main_law KX G hmg ?a0 ?l0 ?e0 ?k0 ?a1 ?l1 ?e1 ?k1 ?a2 ?l2 ?e2 ?k2 ?a3 ?l3 ?e3 ?k3 ?a4 ?l4 ?e4 ?k4 ?a5 ?l5 ?e5 ?k5 ?a6 ?l6 ?e6 ?k6 ?a7 ?l7 ?e7 ?k7 ?a8 ?l8 ?e8 ?k8 ?a9 ?l9 ?e9 ?k9 ?a10 ?l10 ?e10 ?k10 ?a11 ?l11 ?e11 ?k11 ?a12 ?l12 ?e12 ?k12 ?a13 ?l13 ?e13 ?k13 ?a14 ?l14 ?e14 ?k14 ?a15 ?l15 ?e15 ?k15 ?a16 ?l16 ?e16 ?k16 ?a17 ?l17 ?e17 ?k17 ?a18 ?l18 ?e18 ?k18 ?a19 ?l19 ?e19 ?k19 ?a20 ?l20 ?e20 ?k20 ?a21 ?l21 ?e21 ?k21 ?a22 ?l22 ?e22 ?k22 ?a23 ?l23 ?e23 ?k23 ?a24 ?l24 ?e24 ?k24 ?a25 ?l25 ?e25 ?k25 ?a26 ?l26 ?e26 ?k26 ?a27 ?l27 ?e27 ?k27 ?z_abs ?z_all ?z_dict ?z_enumerate ?z_int ?z_isinstance ?z_len ?z_list ?z_max ?z_min ?z_range ?z_repr ?z_sorted ?z_str ?z_sum ?z_tuple ?z_zip ?z_bool ?v_MOST_EACH ?v_MOST_DAYS ?v_MOST_STEPS ?v_MOST_SUM ?v_MOST_FREE ?v_PARTS ?v_MOST_SUMS
    (case a0 => k_is); (case l0 => k_is); (case e0 => k_is); (case k0 => k_is); (case a1 => k_is); (case l1 => k_is); (case e1 => k_is); (case k1 => k_is); (case a2 => k_is); (case l2 => k_is); (case e2 => k_is); (case k2 => k_is); (case a3 => k_is); (case l3 => k_is); (case e3 => k_is); (case k3 => k_is); (case a4 => k_is); (case l4 => k_is); (case e4 => k_is); (case k4 => k_is); (case a5 => k_is); (case l5 => k_is); (case e5 => k_is); (case k5 => k_is); (case a6 => k_is); (case l6 => k_is); (case e6 => k_is); (case k6 => k_is); (case a7 => k_is); (case l7 => k_is); (case e7 => k_is); (case k7 => k_is); (case a8 => k_is); (case l8 => k_is); (case e8 => k_is); (case k8 => k_is); (case a9 => k_is); (case l9 => k_is); (case e9 => k_is); (case k9 => k_is); (case a10 => k_is); (case l10 => k_is); (case e10 => k_is); (case k10 => k_is); (case a11 => k_is); (case l11 => k_is); (case e11 => k_is); (case k11 => k_is); (case a12 => k_is); (case l12 => k_is); (case e12 => k_is); (case k12 => k_is); (case a13 => k_is); (case l13 => k_is); (case e13 => k_is); (case k13 => k_is); (case a14 => k_is); (case l14 => k_is); (case e14 => k_is); (case k14 => k_is); (case a15 => k_is); (case l15 => k_is); (case e15 => k_is); (case k15 => k_is); (case a16 => k_is); (case l16 => k_is); (case e16 => k_is); (case k16 => k_is); (case a17 => k_is); (case l17 => k_is); (case e17 => k_is); (case k17 => k_is); (case a18 => k_is); (case l18 => k_is); (case e18 => k_is); (case k18 => k_is); (case a19 => k_is); (case l19 => k_is); (case e19 => k_is); (case k19 => k_is); (case a20 => k_is); (case l20 => k_is); (case e20 => k_is); (case k20 => k_is); (case a21 => k_is); (case l21 => k_is); (case e21 => k_is); (case k21 => k_is); (case a22 => k_is); (case l22 => k_is); (case e22 => k_is); (case k22 => k_is); (case a23 => k_is); (case l23 => k_is); (case e23 => k_is); (case k23 => k_is); (case a24 => k_is); (case l24 => k_is); (case e24 => k_is); (case k24 => k_is); (case a25 => k_is); (case l25 => k_is); (case e25 => k_is); (case k25 => k_is); (case a26 => k_is); (case l26 => k_is); (case e26 => k_is); (case k26 => k_is); (case a27 => k_is); (case l27 => k_is); (case e27 => k_is); (case k27 => k_is); (case z_abs => k_is); (case z_all => k_is); (case z_dict => k_is); (case z_enumerate => k_is); (case z_int => k_is); (case z_isinstance => k_is); (case z_len => k_is); (case z_list => k_is); (case z_max => k_is); (case z_min => k_is); (case z_range => k_is); (case z_repr => k_is); (case z_sorted => k_is); (case z_str => k_is); (case z_sum => k_is); (case z_tuple => k_is); (case z_zip => k_is); (case z_bool => k_is); (case v_MOST_EACH => k_is); (case v_MOST_DAYS => k_is); (case v_MOST_STEPS => k_is); (case v_MOST_SUM => k_is); (case v_MOST_FREE => k_is); (case v_PARTS => k_is); (case v_MOST_SUMS => k_is)
