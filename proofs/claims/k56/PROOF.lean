import PyProof.Rows.All
import Wide.All
import OpenK.AllK
import Wide.FinOn
import PyProof.EqAt
import PyProof.EqKinds
import PyProof.TupleCall
import HandS.ForMost
import HandS.ForExc
import HandS.CallSlots
import HandS.ExcCtx
import HandS.HotCalls
import HandS.ExcField
import HandS.Wide
import HandS.TupAny
import HandS.Style
import HandS.Deep
import HandS.SortInts
import HandS.IsInst
import HandS.Conv
import HandS.Defaults
import KE.KExcSuper
import KE.KExcHand
import KE.GoesEnum
import HandS.SetKeys
import HandS.TupSets
import PySem.Challenge.RW_keysapart_k56_whole_what_is_kept_too_lon
set_option Elab.async false
set_option linter.all false
set_option maxRecDepth 100000
set_option autoImplicit false
set_option maxHeartbeats 4000000
/-! # Kp: a data-level layer: values, a store of cells, mirrors, and what it is to carry them out -/
namespace Kp
open PySem PySem.Spec L2
open PyProof.Rows hiding St

/-- data: what a mirror speaks of -/
inductive D where
  | non | bl (b : Bool) | int (i : Int) | str (x : Str)
  /-- a tuple; a list that nobody changes any more; a list that is frozen or stands in the text -/
  | tup (xs : List D) | lst (xs : List D) | fls (xs : List D)
  /-- a cell of the store -/
  | ref (n : Nat)
  /-- an instance that nobody changes any more: class, names, values -/
  | obj (c : Str) (ns : List Str) (vs : List D)

/-- what a cell holds; lk: locked while it is walked -/
inductive Cell where
  | lst (xs : List D) | dk (kvs : List (Key × D)) | dt (kvs : List (List Key × D)) | ins (c : Str) (fs : List (Str × D)) | lk (c : Cell)

inductive Res (α : Type) where
  | ok (a : α) (s : List Cell) | er (c : Str) (d : D) (s : List Cell) | no

abbrev En := List (Option D)
abbrev Sto := List Cell
abbrev M (α : Type) := En → Sto → Res α

/-- what stays fixed: the program, the world, what stands written -/
structure Gb where
  P : Program
  w : World
  K : PySem.W.Frag
  mg : Str → Option Value
  base : Heap

abbrev H0 : Hp := fun _ => none
/-- a tuple: tracked, no cell's; or written. A list that stays as it is, likewise -/
def Ft (K : PySem.W.Frag) (φ : List Addr) (H : Hp) (a : Addr) (vs : List V) : Prop := (Rd H a (.tup vs) ∧ a ∉ φ) ∨ SqT K H0 a vs
def Fl (K : PySem.W.Frag) (φ : List Addr) (H : Hp) (a : Addr) (vs : List V) : Prop := ((∃ o, H a = some (.frz o (.lst vs))) ∧ a ∉ φ) ∨ SqL K H0 a vs
theorem Ft.sq {K : PySem.W.Frag} {φ : List Addr} {H : Hp} {a : Addr} {vs : List V} (h : Ft K φ H a vs) : SqT K H a vs := by
  rcases h with h | (h | h)
  · exact .inl h.1
  · rcases h with h | ⟨o, h⟩ <;> cases h
  · exact .inr h
theorem Fl.sq {K : PySem.W.Frag} {φ : List Addr} {H : Hp} {a : Addr} {vs : List V} (h : Fl K φ H a vs) : SqL K H a vs := by
  rcases h with h | (h | h)
  · exact .inl (.inr h.1)
  · rcases h with h | ⟨o, h⟩ <;> cases h
  · exact .inr h

theorem ne_h {H : Hp} {a p : Addr} (h : H p = none) (x : H a ≠ none) : a ≠ p := fun e => x (by rw [e]; exact h)
theorem ne_m {l : List Addr} {a p : Addr} (h : p ∈ l) (n : a ∉ l) : a ≠ p := fun e => n (by rw [e]; exact h)
theorem ne_m' {l : List Addr} {a p : Addr} (h : a ∈ l) (n : p ∉ l) : a ≠ p := fun e => n (by rw [← e]; exact h)

mutual
inductive Rep (G : Gb) (Z φ : List Addr) (H : Hp) : V → D → Prop
  | non : Rep G Z φ H .non .non
  | bl (b : Bool) : Rep G Z φ H (.bl b) (.bl b)
  | int (i : Int) : Rep G Z φ H (.int i) (.int i)
  | str (x : Str) : Rep G Z φ H (.str x) (.str x)
  | tup {a : Addr} {vs : List V} {ds : List D} : Ft G.K φ H a vs → Reps G Z φ H vs ds → Rep G Z φ H (.ref a) (.tup ds)
  | lst {a : Addr} {vs : List V} {ds : List D} : H a = some (.lst vs) → a ∉ φ → a ∉ Z → Reps G Z φ H vs ds → Rep G Z φ H (.ref a) (.lst ds)
  | fls {a : Addr} {vs : List V} {ds : List D} : Fl G.K φ H a vs → Reps G Z φ H vs ds → Rep G Z φ H (.ref a) (.fls ds)
  | ref {a : Addr} {n : Nat} : φ[n]? = some a → Rep G Z φ H (.ref a) (.ref n)
  | obj {a A dx : Addr} {c : Str} {ns : List Str} {fs : List (Str × V)} {ds : List D} : G.mg c = some (.ref A) → H a = some (.ins A dx fs) → a ∉ φ → a ∉ Z → fs.map (·.1) = ns →
      Reps G Z φ H (fs.map (·.2)) ds → Rep G Z φ H (.ref a) (.obj c ns ds)
inductive Reps (G : Gb) (Z φ : List Addr) (H : Hp) : List V → List D → Prop
  | nil : Reps G Z φ H [] []
  | cons {v : V} {vs : List V} {d : D} {ds : List D} : Rep G Z φ H v d → Reps G Z φ H vs ds → Reps G Z φ H (v :: vs) (d :: ds)
end

/-- a later state: cells may have changed, nothing else; new ones stand at places that were free -/
structure Ext (φ : List Addr) (H : Hp) (φ' : List Addr) (H' : Hp) : Prop where
  pre : ∃ t, φ' = φ ++ t
  keep : ∀ a o, H a = some o → a ∉ φ → H' a = some o ∧ a ∉ φ'
  frz : ∀ a o u, H a = some (.frz o u) → H' a = some (.frz o u)
theorem Ext.refl (φ : List Addr) (H : Hp) : Ext φ H φ H := ⟨⟨[], by simp⟩, fun _ _ h n => ⟨h, n⟩, fun _ _ _ h => h⟩
theorem Ext.trans {φ φ1 φ2 : List Addr} {H H1 H2 : Hp} (a : Ext φ H φ1 H1) (b : Ext φ1 H1 φ2 H2) : Ext φ H φ2 H2 :=
  ⟨by obtain ⟨t, e⟩ := a.pre; obtain ⟨u, e'⟩ := b.pre; exact ⟨t ++ u, by rw [e', e, List.append_assoc]⟩, fun c o h n => let ⟨h1, n1⟩ := a.keep c o h n; b.keep c o h1 n1, fun c o u h => b.frz c o u (a.frz c o u h)⟩
/-- a new object, tracked, no cell's -/
theorem Ext.new {φ : List Addr} {H : Hp} {p : Addr} {o : HO} (h : H p = none) : Ext φ H φ (upd H p o) := ⟨⟨[], by simp⟩, fun a u e n => ⟨by rw [upd_ne (ne_of_none e h)]; exact e, n⟩, fun a o u e => by rw [upd_ne (ne_of_none e h)]; exact e⟩
/-- a new object that is a new cell's -/
theorem Ext.cell {φ : List Addr} {H : Hp} {p : Addr} {o : HO} (h : H p = none) : Ext φ H (φ ++ [p]) (upd H p o) := ⟨⟨[p], rfl⟩, fun a u e n => ⟨by rw [upd_ne (ne_of_none e h)]; exact e, fun q => by
  rcases List.mem_append.mp q with q | q
  · exact n q
  · exact ne_of_none e h (by simpa using q)⟩, fun a o u e => by rw [upd_ne (ne_of_none e h)]; exact e⟩
/-- a cell's object is changed -/
theorem Ext.put {φ : List Addr} {H : Hp} {p : Addr} {o : HO} (h : p ∈ φ) (hn : ∀ o u, H p ≠ some (.frz o u)) : Ext φ H φ (upd H p o) := ⟨⟨[], by simp⟩, fun a u e n => ⟨by rw [upd_ne (ne_m h n)]; exact e, n⟩, fun a o u e => by rw [upd_ne (fun z => by subst z; exact hn o u e)]; exact e⟩
theorem Ext.at {φ φ' : List Addr} {H H' : Hp} (x : Ext φ H φ' H') {n : Nat} {a : Addr} (h : φ[n]? = some a) : φ'[n]? = some a := by
  obtain ⟨t, rfl⟩ := x.pre
  obtain ⟨hn, e⟩ := List.getElem?_eq_some_iff.mp h
  rw [List.getElem?_append_left hn]
  exact h

section
variable {G : Gb} {Z Z' φ φ' : List Addr} {H H' : Hp}
theorem Ft.ext (x : Ext φ H φ' H') {K : PySem.W.Frag} {a : Addr} {vs : List V} (h : Ft K φ H a vs) : Ft K φ' H' a vs := by
  rcases h with ⟨h | ⟨o, h⟩, n⟩ | h
  · exact .inl ⟨.inl (x.keep _ _ h n).1, (x.keep _ _ h n).2⟩
  · exact .inl ⟨.inr ⟨o, (x.keep _ _ h n).1⟩, (x.keep _ _ h n).2⟩
  · exact .inr h
theorem Fl.ext (x : Ext φ H φ' H') {K : PySem.W.Frag} {a : Addr} {vs : List V} (h : Fl K φ H a vs) : Fl K φ' H' a vs := by
  rcases h with ⟨⟨o, h⟩, n⟩ | h
  · exact .inl ⟨⟨o, (x.keep _ _ h n).1⟩, (x.keep _ _ h n).2⟩
  · exact .inr h
/-- any change of the ground that leaves each place of data as it is -/
structure Mv (Z φ : List Addr) (H : Hp) (Z' φ' : List Addr) (H' : Hp) : Prop where
  tup : ∀ a vs, Rd H a (.tup vs) → a ∉ φ → Rd H' a (.tup vs) ∧ a ∉ φ'
  fls : ∀ a o vs, H a = some (.frz o (.lst vs)) → a ∉ φ → H' a = some (.frz o (.lst vs)) ∧ a ∉ φ'
  lst : ∀ a vs, H a = some (.lst vs) → a ∉ φ → a ∉ Z → H' a = some (.lst vs) ∧ a ∉ φ' ∧ a ∉ Z'
  ins : ∀ a A dx fs, H a = some (.ins A dx fs) → a ∉ φ → a ∉ Z → H' a = some (.ins A dx fs) ∧ a ∉ φ' ∧ a ∉ Z'
  ref : ∀ (n : Nat) (a : Addr), φ[n]? = some a → φ'[n]? = some a
mutual
theorem Rep.mv (m : Mv Z φ H Z' φ' H') : ∀ {v : V} {d : D}, Rep G Z φ H v d → Rep G Z' φ' H' v d
  | _, _, .non => .non
  | _, _, .bl b => .bl b
  | _, _, .int i => .int i
  | _, _, .str x => .str x
  | _, _, .tup (.inl ⟨h, n⟩) r => .tup (.inl (m.tup _ _ h n)) (Reps.mv m r)
  | _, _, .tup (.inr h) r => .tup (.inr h) (Reps.mv m r)
  | _, _, .lst h n z r => .lst (m.lst _ _ h n z).1 (m.lst _ _ h n z).2.1 (m.lst _ _ h n z).2.2 (Reps.mv m r)
  | _, _, .fls (.inl ⟨⟨o, h⟩, n⟩) r => .fls (.inl ⟨⟨o, (m.fls _ _ _ h n).1⟩, (m.fls _ _ _ h n).2⟩) (Reps.mv m r)
  | _, _, .fls (.inr h) r => .fls (.inr h) (Reps.mv m r)
  | _, _, .ref h => .ref (m.ref _ _ h)
  | _, _, .obj hc h n z e r => .obj hc (m.ins _ _ _ _ h n z).1 (m.ins _ _ _ _ h n z).2.1 (m.ins _ _ _ _ h n z).2.2 e (Reps.mv m r)
theorem Reps.mv (m : Mv Z φ H Z' φ' H') : ∀ {vs : List V} {ds : List D}, Reps G Z φ H vs ds → Reps G Z' φ' H' vs ds
  | _, _, .nil => .nil
  | _, _, .cons r t => .cons (Rep.mv m r) (Reps.mv m t)
end
theorem Ext.mv (x : Ext φ H φ' H') : Mv Z φ H Z φ' H' := ⟨fun a vs h n => by
    rcases h with h | ⟨o, h⟩
    · exact ⟨.inl (x.keep _ _ h n).1, (x.keep _ _ h n).2⟩
    · exact ⟨.inr ⟨o, (x.keep _ _ h n).1⟩, (x.keep _ _ h n).2⟩,
  fun a o vs h n => x.keep _ _ h n, fun a vs h n z => ⟨(x.keep _ _ h n).1, (x.keep _ _ h n).2, z⟩, fun a A dx fs h n z => ⟨(x.keep _ _ h n).1, (x.keep _ _ h n).2, z⟩, fun n a h => x.at h⟩
/-- one place more is hidden, of which nobody speaks -/
theorem Mv.hide {p : Addr} (h : H p = none) : Mv Z φ H (p :: Z) φ H := ⟨fun _ _ h n => ⟨h, n⟩, fun _ _ _ h n => ⟨h, n⟩, fun a _ e n z => ⟨e, n, fun q => (List.mem_cons.mp q).elim (ne_of_none e h) z⟩, fun a _ _ _ e n z => ⟨e, n, fun q => (List.mem_cons.mp q).elim (ne_of_none e h) z⟩, fun _ _ h => h⟩
/-- one less -/
theorem Mv.show {p : Addr} : Mv (p :: Z) φ H Z φ H := ⟨fun _ _ h n => ⟨h, n⟩, fun _ _ _ h n => ⟨h, n⟩, fun a _ e n z => ⟨e, n, fun q => z (List.mem_cons_of_mem _ q)⟩, fun a _ _ _ e n z => ⟨e, n, fun q => z (List.mem_cons_of_mem _ q)⟩, fun _ _ h => h⟩
/-- a hidden list becomes a cell -/
theorem Mv.box {p : Addr} {vs : List V} (h : H p = some (.lst vs)) : Mv (p :: Z) φ H Z (φ ++ [p]) H := by
  have nin : ∀ a, a ∉ φ → a ≠ p → a ∉ φ ++ [p] := fun a n e q => (List.mem_append.mp q).elim n fun z => e (by simpa using z)
  refine ⟨fun a ws e n => ⟨e, nin a n fun z => ?_⟩, fun a o ws e n => ⟨e, nin a n fun z => ?_⟩, fun a ws e n z => ⟨e, nin a n fun q => z (q ▸ List.mem_cons_self), fun q => z (List.mem_cons_of_mem _ q)⟩,
    fun a A dx fs e n z => ⟨e, nin a n fun q => z (q ▸ List.mem_cons_self), fun q => z (List.mem_cons_of_mem _ q)⟩, fun n a e => ?_⟩
  · subst z
    rcases e with e | ⟨o, e⟩
    · rw [h] at e; cases e
    · rw [h] at e; cases e
  · subst z; rw [h] at e; cases e
  · obtain ⟨hn, _⟩ := List.getElem?_eq_some_iff.mp e
    rw [List.getElem?_append_left hn]
    exact e
theorem Mv.put {p : Addr} {o : HO} (h : p ∈ φ) : Mv Z φ H Z φ (upd H p o) := by
  refine ⟨fun a vs e n => ⟨?_, n⟩, fun a o' vs e n => ⟨by rw [upd_ne (ne_m h n)]; exact e, n⟩, fun a vs e n z => ⟨by rw [upd_ne (ne_m h n)]; exact e, n, z⟩, fun a A dx fs e n z => ⟨by rw [upd_ne (ne_m h n)]; exact e, n, z⟩, fun _ _ e => e⟩
  rcases e with e | ⟨u, e⟩
  · exact .inl (by rw [upd_ne (ne_m h n)]; exact e)
  · exact .inr ⟨u, by rw [upd_ne (ne_m h n)]; exact e⟩
theorem Rep.ext (x : Ext φ H φ' H') {v : V} {d : D} (r : Rep G Z φ H v d) : Rep G Z φ' H' v d := r.mv x.mv
theorem Reps.ext (x : Ext φ H φ' H') {vs : List V} {ds : List D} (r : Reps G Z φ H vs ds) : Reps G Z φ' H' vs ds := r.mv x.mv
theorem Reps.length : ∀ {vs : List V} {ds : List D}, Reps G Z φ H vs ds → vs.length = ds.length
  | _, _, .nil => rfl
  | _, _, .cons _ t => by rw [List.length_cons, List.length_cons, Reps.length t]
theorem Reps.append : ∀ {vs us : List V} {ds es : List D}, Reps G Z φ H vs ds → Reps G Z φ H us es → Reps G Z φ H (vs ++ us) (ds ++ es)
  | _, _, _, _, .nil, s => s
  | _, _, _, _, .cons r t, s => .cons r (Reps.append t s)
theorem Reps.get : ∀ {vs : List V} {ds : List D} {i : Nat} {d : D}, Reps G Z φ H vs ds → ds[i]? = some d → ∃ v, vs[i]? = some v ∧ Rep G Z φ H v d
  | _, _, i, d, .nil, e => by simp at e
  | _, _, 0, d, .cons r _, e => by simp at e; subst e; exact ⟨_, rfl, r⟩
  | _, _, i + 1, d, .cons _ t, e => by
    obtain ⟨v, h1, h2⟩ := Reps.get (i := i) t (by simpa using e)
    exact ⟨v, by simpa using h1, h2⟩
theorem Reps.at : ∀ {vs : List V} {ds : List D} {i : Nat} {v : V}, Reps G Z φ H vs ds → vs[i]? = some v → ∃ d, ds[i]? = some d ∧ Rep G Z φ H v d
  | _, _, i, v, .nil, e => by simp at e
  | _, _, 0, v, .cons r _, e => by simp at e; subst e; exact ⟨_, rfl, r⟩
  | _, _, i + 1, v, .cons _ t, e => by
    obtain ⟨d, h1, h2⟩ := Reps.at (i := i) t (by simpa using e)
    exact ⟨d, by simpa using h1, h2⟩
theorem Reps.set {v : V} {d : D} (r : Rep G Z φ H v d) : ∀ {vs : List V} {ds : List D} (i : Nat), Reps G Z φ H vs ds → Reps G Z φ H (vs.set i v) (ds.set i d)
  | _, _, _, .nil => .nil
  | _, _, 0, .cons _ t => .cons r t
  | _, _, i + 1, .cons q t => .cons q (Reps.set r i t)
theorem Reps.drop : ∀ {vs : List V} {ds : List D} (n : Nat), Reps G Z φ H vs ds → Reps G Z φ H (vs.drop n) (ds.drop n)
  | _, _, 0, r => r
  | _, _, _ + 1, .nil => .nil
  | _, _, n + 1, .cons _ t => Reps.drop n t
theorem Reps.take : ∀ {vs : List V} {ds : List D} (n : Nat), Reps G Z φ H vs ds → Reps G Z φ H (vs.take n) (ds.take n)
  | _, _, 0, _ => .nil
  | _, _, _ + 1, .nil => .nil
  | _, _, n + 1, .cons r t => .cons r (Reps.take n t)
theorem Reps.erase : ∀ {vs : List V} {ds : List D} (n : Nat), Reps G Z φ H vs ds → Reps G Z φ H (vs.eraseIdx n) (ds.eraseIdx n)
  | _, _, _, .nil => .nil
  | _, _, 0, .cons _ t => t
  | _, _, n + 1, .cons r t => .cons r (Reps.erase n t)
theorem Reps.dropLast {vs : List V} {ds : List D} (r : Reps G Z φ H vs ds) : Reps G Z φ H vs.dropLast ds.dropLast := by
  rw [List.dropLast_eq_take, List.dropLast_eq_take, r.length]
  exact r.take _
theorem Reps.reverse : ∀ {vs : List V} {ds : List D}, Reps G Z φ H vs ds → Reps G Z φ H vs.reverse ds.reverse
  | _, _, .nil => .nil
  | _, _, .cons r t => by rw [List.reverse_cons, List.reverse_cons]; exact (Reps.reverse t).append (.cons r .nil)
end

/-- one slot -/
def RepO (G : Gb) (Z φ : List Addr) (H : Hp) : Option V → Option D → Prop
  | some v, some d => Rep G Z φ H v d
  | _, none => True
  | none, some _ => False
/-- the slots: where the mirror knows nothing, anything may stand -/
def RepEn (G : Gb) (Z φ : List Addr) (H : Hp) (σ : St) (ρ : En) : Prop := σ.length = ρ.length ∧ ∀ (i : Nat) (d : D), ρ[i]? = some (some d) → ∃ v, σ[i]? = some (some v) ∧ Rep G Z φ H v d

/-- an object, described by a cell -/
def RepO' (G : Gb) (Z φ : List Addr) (H : Hp) : HO → Cell → Prop
  | .lst vs, .lst ds => Reps G Z φ H vs ds
  | .dK ws, .dk kvs => ws.map (·.1) = kvs.map (·.1) ∧ Reps G Z φ H (ws.map (·.2)) (kvs.map (·.2))
  | .dT ws, .dt kvs => ws.map (·.1) = kvs.map (·.1) ∧ Reps G Z φ H (ws.map (·.2)) (kvs.map (·.2))
  | .ins A _ ws, .ins c fs => G.mg c = some (.ref A) ∧ ws.map (·.1) = fs.map (·.1) ∧ Reps G Z φ H (ws.map (·.2)) (fs.map (·.2))
  | _, _ => False
def RepC (G : Gb) (Z φ : List Addr) (H : Hp) (a : Addr) : Cell → Prop
  | .lk c => ∃ o u, H a = some (.frz o u) ∧ RepO' G Z φ H u c
  | c => ∃ u, H a = some u ∧ RepO' G Z φ H u c
/-- the store stands -/
structure RS (G : Gb) (Z φ : List Addr) (st : Sto) (H : Hp) : Prop where
  len : φ.length = st.length
  nd : φ.Nodup
  cells : ∀ (n : Nat) (c : Cell) (a : Addr), st[n]? = some c → φ[n]? = some a → RepC G Z φ H a c
  hid : ∀ a ∈ Z, H a ≠ none ∧ a ∉ φ

section
variable {G : Gb} {Z Z' φ φ' : List Addr} {H H' : Hp} {st : Sto}
theorem RepO'.mv (m : Mv Z φ H Z' φ' H') {u : HO} {c : Cell} (r : RepO' G Z φ H u c) : RepO' G Z' φ' H' u c := by
  unfold RepO' at r ⊢
  split at r
  · exact Reps.mv m r
  · exact ⟨r.1, Reps.mv m r.2⟩
  · exact ⟨r.1, Reps.mv m r.2⟩
  · exact ⟨r.1, r.2.1, Reps.mv m r.2.2⟩
  · exact r.elim
theorem RepEn.mv (m : Mv Z φ H Z' φ' H') {σ : St} {ρ : En} (r : RepEn G Z φ H σ ρ) : RepEn G Z' φ' H' σ ρ := ⟨r.1, fun i d h => let ⟨v, e, q⟩ := r.2 i d h; ⟨v, e, q.mv m⟩⟩
theorem RepEn.ext (x : Ext φ H φ' H') {σ : St} {ρ : En} (r : RepEn G Z φ H σ ρ) : RepEn G Z φ' H' σ ρ := r.mv x.mv
theorem RepC.mv (m : Mv Z φ H Z' φ' H') {a : Addr} (k : H' a = H a) {c : Cell} (r : RepC G Z φ H a c) : RepC G Z' φ' H' a c := by
  unfold RepC at r ⊢
  split at r
  · obtain ⟨o, u, e, r⟩ := r
    exact ⟨o, u, by rw [k]; exact e, r.mv m⟩
  · obtain ⟨u, e, r⟩ := r
    exact ⟨u, by rw [k]; exact e, r.mv m⟩
theorem RS.there (r : RS G Z φ st H) {a : Addr} (h : a ∈ φ) : H a ≠ none := by
  obtain ⟨n, hn, e⟩ := List.mem_iff_getElem.mp h
  have hs : n < st.length := by rw [← r.len]; exact hn
  have q := r.cells n _ a (List.getElem?_eq_getElem hs) (by rw [List.getElem?_eq_getElem hn, e])
  unfold RepC at q
  intro z
  split at q
  · obtain ⟨_, _, e, _⟩ := q; rw [z] at e; cases e
  · obtain ⟨_, e, _⟩ := q; rw [z] at e; cases e
theorem RS.fresh (r : RS G Z φ st H) {p : Addr} (h : H p = none) : p ∉ φ := fun q => r.there q h
theorem RS.addr (r : RS G Z φ st H) {n : Nat} {c : Cell} (h : st[n]? = some c) : ∃ a, φ[n]? = some a ∧ a ∈ φ ∧ RepC G Z φ H a c := by
  obtain ⟨hn, _⟩ := List.getElem?_eq_some_iff.mp h
  have hl : n < φ.length := by rw [r.len]; exact hn
  exact ⟨φ[n], List.getElem?_eq_getElem hl, List.getElem_mem hl, r.cells n c _ h (List.getElem?_eq_getElem hl)⟩
/-- a new object that is no cell's -/
theorem RS.new (r : RS G Z φ st H) {p : Addr} {o : HO} (h : H p = none) : RS G Z φ st (upd H p o) where
  len := r.len
  nd := r.nd
  cells := fun n c a e q => (r.cells n c a e q).mv (Ext.new h).mv (upd_ne (ne_m' (List.mem_of_getElem? q) (r.fresh h)))
  hid := fun a m => ⟨by rw [upd_ne (ne_h h (r.hid a m).1)]; exact (r.hid a m).1, (r.hid a m).2⟩
/-- .. that is hidden -/
theorem RS.newHid (r : RS G Z φ st H) {p : Addr} {o : HO} (h : H p = none) : RS G (p :: Z) φ st (upd H p o) where
  len := r.len
  nd := r.nd
  cells := fun n c a e q => by
    have m1 : Mv Z φ H (p :: Z) φ H := Mv.hide h
    have m2 : Mv (p :: Z) φ H (p :: Z) φ (upd H p o) := (Ext.new h).mv
    have q1 : RepC G (p :: Z) φ H a c := (r.cells n c a e q).mv m1 rfl
    exact q1.mv m2 (upd_ne (ne_m' (List.mem_of_getElem? q) (r.fresh h)))
  hid := fun a m => by
    rcases List.mem_cons.mp m with rfl | m
    · exact ⟨by rw [upd_same]; exact (fun z => nomatch z), r.fresh h⟩
    · exact ⟨by rw [upd_ne (ne_h h (r.hid a m).1)]; exact (r.hid a m).1, (r.hid a m).2⟩
/-- a hidden one changes -/
theorem RS.hidPut {p : Addr} {o : HO} (r : RS G (p :: Z) φ st H) (hp : ∃ vs, H p = some (.lst vs)) : RS G (p :: Z) φ st (upd H p o) ∧ Mv (p :: Z) φ H (p :: Z) φ (upd H p o) := by
  obtain ⟨vs, hp⟩ := hp
  have np : p ∉ φ := (r.hid p List.mem_cons_self).2
  have m : Mv (p :: Z) φ H (p :: Z) φ (upd H p o) := by
    refine ⟨fun a ws h n => ?_, fun a o' ws h n => ⟨?_, n⟩, fun a ws h n z => ⟨?_, n, z⟩, fun a A dx fs h n z => ⟨?_, n, z⟩, fun _ _ h => h⟩
    · have e : a ≠ p := fun e => by
        subst e
        rcases h with h | ⟨_, h⟩ <;> (rw [hp] at h; cases h)
      refine ⟨?_, n⟩
      rcases h with h | ⟨u, h⟩
      · exact .inl (by rw [upd_ne e]; exact h)
      · exact .inr ⟨u, by rw [upd_ne e]; exact h⟩
    · rw [upd_ne (fun e => by subst e; rw [hp] at h; cases h)]; exact h
    · rw [upd_ne (ne_m List.mem_cons_self z)]; exact h
    · rw [upd_ne (ne_m List.mem_cons_self z)]; exact h
  refine ⟨⟨r.len, r.nd, fun n c a e q => (r.cells n c a e q).mv m (upd_ne (ne_m' (List.mem_of_getElem? q) np)), fun a m => ⟨?_, (r.hid a m).2⟩⟩, m⟩
  by_cases z : a = p
  · subst z; rw [upd_same]; exact fun q => by cases q
  · rw [upd_ne z]; exact (r.hid a m).1
/-- the hidden one is shown: as data -/
theorem RS.shown {p : Addr} (r : RS G (p :: Z) φ st H) : RS G Z φ st H where
  len := r.len
  nd := r.nd
  cells := fun n c a e q => (r.cells n c a e q).mv Mv.show rfl
  hid := fun a m => r.hid a (List.mem_cons_of_mem _ m)
/-- .. as a cell -/
theorem RS.boxed {p : Addr} {vs : List V} {ds : List D} (r : RS G (p :: Z) φ st H) (h : H p = some (.lst vs)) (q : Reps G (p :: Z) φ H vs ds) (hz : p ∉ Z) : RS G Z (φ ++ [p]) (st ++ [.lst ds]) H where
  len := by rw [List.length_append, List.length_append, r.len]; rfl
  nd := List.nodup_append.mpr ⟨r.nd, (by simp), fun a ha b hb => by
    have e : b = p := by simpa using hb
    subst e
    exact ne_m' ha (r.hid b List.mem_cons_self).2⟩
  cells := fun n c a e q' => by
    have m : Mv (p :: Z) φ H Z (φ ++ [p]) H := Mv.box h
    by_cases hn : n < st.length
    · rw [List.getElem?_append_left hn] at e
      rw [List.getElem?_append_left (by rw [r.len]; exact hn)] at q'
      exact (r.cells n c a e q').mv m rfl
    · obtain ⟨h1, h2⟩ := List.getElem?_eq_some_iff.mp e
      have en : n = st.length := by rw [List.length_append] at h1; simp at h1; omega
      subst en
      rw [List.getElem?_append_right (Nat.le_refl _), Nat.sub_self] at e
      rw [← r.len, List.getElem?_append_right (Nat.le_refl _), Nat.sub_self] at q'
      have e' : Cell.lst ds = c := Option.some.inj e
      have q'' : p = a := Option.some.inj q'
      subst e' q''
      exact ⟨.lst vs, h, q.mv m⟩
  hid := fun a m => ⟨(r.hid a (List.mem_cons_of_mem _ m)).1, fun z => by
    rcases List.mem_append.mp z with z | z
    · exact (r.hid a (List.mem_cons_of_mem _ m)).2 z
    · have e : a = p := by simpa using z
      subst e
      exact hz m⟩
/-- a new cell -/
theorem RS.cell {p : Addr} {u : HO} {c : Cell} (r : RS G Z φ st H) (h : H p = none) (hc : ∀ φ' H', Mv Z φ H Z φ' H' → RepC G Z φ' H' p c ∨ H' p ≠ some u) : RS G Z (φ ++ [p]) (st ++ [c]) (upd H p u) where
  len := by rw [List.length_append, List.length_append, r.len]; rfl
  nd := List.nodup_append.mpr ⟨r.nd, (by simp), fun a ha b hb => by
    have e : b = p := by simpa using hb
    subst e
    exact ne_m' ha (r.fresh h)⟩
  cells := fun n c' a e q' => by
    have m : Mv Z φ H Z (φ ++ [p]) (upd H p u) := (Ext.cell h).mv
    by_cases hn : n < st.length
    · rw [List.getElem?_append_left hn] at e
      rw [List.getElem?_append_left (by rw [r.len]; exact hn)] at q'
      exact (r.cells n c' a e q').mv m (upd_ne (ne_m' (List.mem_of_getElem? q') (r.fresh h)))
    · obtain ⟨h1, h2⟩ := List.getElem?_eq_some_iff.mp e
      have en : n = st.length := by rw [List.length_append] at h1; simp at h1; omega
      subst en
      rw [List.getElem?_append_right (Nat.le_refl _), Nat.sub_self] at e
      rw [← r.len, List.getElem?_append_right (Nat.le_refl _), Nat.sub_self] at q'
      have e' : c = c' := Option.some.inj e
      have q'' : p = a := Option.some.inj q'
      subst e' q''
      rcases hc _ _ m with x | x
      · exact x
      · exact absurd upd_same x
  hid := fun a m => ⟨by rw [upd_ne (ne_h h (r.hid a m).1)]; exact (r.hid a m).1, fun z => by
    rcases List.mem_append.mp z with z | z
    · exact (r.hid a m).2 z
    · have e : a = p := by simpa using z
      subst e
      exact (r.hid a m).1 h⟩
/-- a cell changes -/
theorem RS.put {n : Nat} {p : Addr} {u : HO} {c : Cell} (r : RS G Z φ st H) (hp : φ[n]? = some p) (hc : ∀ H', Mv Z φ H Z φ H' → RepC G Z φ H' p c ∨ H' p ≠ some u) : RS G Z φ (st.set n c) (upd H p u) where
  len := by rw [List.length_set]; exact r.len
  nd := r.nd
  cells := fun k c' a e q' => by
    have m : Mv Z φ H Z φ (upd H p u) := Mv.put (List.mem_of_getElem? hp)
    by_cases hk : n = k
    · subst hk
      rw [hp] at q'; cases q'
      obtain ⟨h1, h2⟩ := List.getElem?_eq_some_iff.mp e
      rw [List.getElem?_set_self (by simpa using h1)] at e
      cases e
      rcases hc _ m with x | x
      · exact x
      · exact absurd upd_same x
    · rw [List.getElem?_set_ne hk] at e
      refine (r.cells k c' a e q').mv m (upd_ne fun z => ?_)
      subst z
      obtain ⟨i1, e1⟩ := List.getElem?_eq_some_iff.mp hp
      obtain ⟨i2, e2⟩ := List.getElem?_eq_some_iff.mp q'
      exact hk ((List.getElem_inj r.nd).mp (e1.trans e2.symm))
  hid := fun a m => ⟨by
    by_cases z : a = p
    · subst z; rw [upd_same]; exact fun q => by cases q
    · rw [upd_ne z]; exact (r.hid a m).1, (r.hid a m).2⟩
end
end Kp

/-! # Kp, 2: contexts, and what it is that an expression does what a mirror does -/
namespace Kp
open PySem PySem.Spec L2
open PyProof.Rows hiding St

def Res.bind {α β : Type} (r : Res α) (f : α → Sto → Res β) : Res β := match r with
  | .ok a s => f a s
  | .er c d s => .er c d s
  | .no => .no
@[simp] theorem bind_ok {α β : Type} (a : α) (s : Sto) (f : α → Sto → Res β) : (Res.ok a s).bind f = f a s := rfl
@[simp] theorem bind_er {α β : Type} (c : Str) (d : D) (s : Sto) (f : α → Sto → Res β) : (Res.er c d s).bind f = .er c d s := rfl
@[simp] theorem bind_no {α β : Type} (f : α → Sto → Res β) : (Res.no : Res α).bind f = .no := rfl

/-- what is wanted behind a result -/
def post {α : Type} (G : Gb) (Z φ : List Addr) (H : Hp) (r : Res α) (Q : List Addr → Hp → α → Sto → Prop) (W : XK) : Prop := match r with
  | .ok a st => ∀ φ' H', Ext φ H φ' H' → RS G Z φ' st H' → Q φ' H' a st
  | .er c d st => ∀ φ' H' A dx v, Ext φ H φ' H' → RS G Z φ' st H' → G.mg c = some (.ref A) → H' dx = some (.xd [("at", v)]) → Rep G Z φ' H' v d → W (.ref A) (some dx) H'
  | .no => False
section
variable {α β : Type} {G : Gb} {Z φ φ' : List Addr} {H H' : Hp} {r : Res α} {f : α → Sto → Res β} {Q Q' : List Addr → Hp → α → Sto → Prop} {P : List Addr → Hp → β → Sto → Prop} {W W' : XK}
theorem post.ext (x : Ext φ H φ' H') (h : post G Z φ H r Q W) : post G Z φ' H' r Q W := by
  unfold post at h ⊢
  split at h
  · exact fun φ2 H2 y => h φ2 H2 (x.trans y)
  · exact fun φ2 H2 A dx v y => h φ2 H2 A dx v (x.trans y)
  · exact h
theorem post.mono (h : post G Z φ H r Q W) (q : ∀ φ' H' a st, Ext φ H φ' H' → RS G Z φ' st H' → Q φ' H' a st → Q' φ' H' a st) : post G Z φ H r Q' W := by
  unfold post at h ⊢
  split at h
  · exact fun φ2 H2 y z => q _ _ _ _ y z (h φ2 H2 y z)
  · exact h
  · exact h
theorem post.bnd (h : post G Z φ H (r.bind f) P W) : post G Z φ H r (fun φ1 H1 a st => post G Z φ1 H1 (f a st) P W) W := by
  cases r with
  | ok a st => exact fun φ1 H1 x _ => post.ext x h
  | er c d st => exact h
  | no => exact h
theorem post.ok {a : α} {st : Sto} (h : post G Z φ H (.ok a st) Q W) (rs : RS G Z φ st H) : Q φ H a st := h φ H (Ext.refl _ _) rs
end

/-- the names of the def at hand, its scope, the names whose cells are its own -/
structure Sc where
  N : List Str
  sc : Scope
  fn : Str → Bool

structure Cok (G : Gb) (k : Nat) (Γ : Sc) (X : Cx) (W : WX) : Prop where
  prog : X.prog = G.P
  w : X.w = G.w
  K : X.K = G.K
  mg : X.mg = G.mg
  base : X.base = G.base
  N : X.N = Γ.N
  nd : Γ.N.Nodup
  sc : X.env.scope = Γ.sc
  fn : X.fn = Γ.fn
  calm : X.calm = true
  room : Room k X.A
  tk : L2N.Takes X W

/-! ### the wishes that an expression, a test, arguments fulfil by themselves -/
def wpE (X : Cx) (e : Expr) : TE := fun σ H Q => ∀ pins s, Inv X pins σ H s → wpAny (model X.prog X.w) X.A (eval e X.env) (EP X pins σ Q) X.xe s
def wpT (X : Cx) (e : Expr) : TT := fun σ H Q => ∀ pins s, Inv X pins σ H s → wpAny (model X.prog X.w) X.A (isTrue e X.env (eval e X.env)) (TP X pins σ Q) X.xe s
def wpW (X : Cx) (e : Expr) : TT := fun σ H Q => ∀ whole pins s, Inv X pins σ H s → wpAny (model X.prog X.w) X.A (isTrue e X.env whole) (TP X pins σ Q) X.xe s
def wpA (X : Cx) (es : List Expr) : TA := fun σ H Q => ∀ pos pins s, Inv X pins σ H s → wpAny (model X.prog X.w) X.A (spliced (backTo pos (starEach es X.env))) (AP X pins σ Q) X.xe s
theorem pe_wp {X : Cx} {e : Expr} : PE X e (wpE X e) := ⟨fun pins s _ _ _ I h => h pins s I⟩
theorem pt_wp {X : Cx} {e : Expr} : PT X e (wpT X e) := ⟨fun pins s _ _ _ I h => h pins s I⟩
theorem pw_wp {X : Cx} {e : Expr} : PW X e (wpW X e) := ⟨fun wh pins s _ _ _ I h => h wh pins s I⟩
theorem pa_wp {X : Cx} {es : List Expr} : PA X es (wpA X es) := ⟨fun pos pins s _ _ _ I h => h pos pins s I⟩
theorem wp_pe {X : Cx} {e : Expr} {t : TE} (p : PE X e t) {σ : L2.St} {H : Hp} {Q : VK} (h : t σ H Q) : wpE X e σ H Q := fun pins s I => p.run pins s σ H Q I h
theorem wp_pt {X : Cx} {e : Expr} {t : TT} (p : PT X e t) {σ : L2.St} {H : Hp} {Q : Bool → Hp → Prop} (h : t σ H Q) : wpT X e σ H Q := fun pins s I => p.run pins s σ H Q I h
theorem wp_pw {X : Cx} {e : Expr} {t : TT} (p : PW X e t) {σ : L2.St} {H : Hp} {Q : Bool → Hp → Prop} (h : t σ H Q) : wpW X e σ H Q := fun wh pins s I => p.run wh pins s σ H Q I h
theorem wp_pa {X : Cx} {es : List Expr} {t : TA} (p : PA X es t) {σ : L2.St} {H : Hp} {Q : List V → Hp → Prop} (h : t σ H Q) : wpA X es σ H Q := fun pos pins s I => p.run pos pins s σ H Q I h

/-! ### doing what a mirror does -/
section
variable (G : Gb) (k : Nat) (Γ : Sc)
def SimE (e : Expr) (m : M D) : Prop := ∀ X W, Cok G k Γ X W → ∀ Z φ ρ st σ H Q, RS G Z φ st H → RepEn G Z φ H σ ρ →
  post G Z φ H (m ρ st) (fun φ' H' d _ => ∀ v, Rep G Z φ' H' v d → Q v H') (fun c d H' => W c d σ H') → wpE X e σ H Q
def SimT (e : Expr) (m : M Bool) : Prop := ∀ X W, Cok G k Γ X W → ∀ Z φ ρ st σ H Q, RS G Z φ st H → RepEn G Z φ H σ ρ →
  post G Z φ H (m ρ st) (fun _ H' b _ => Q b H') (fun c d H' => W c d σ H') → wpT X e σ H Q
def SimW (e : Expr) (m : M Bool) : Prop := ∀ X W, Cok G k Γ X W → ∀ Z φ ρ st σ H Q, RS G Z φ st H → RepEn G Z φ H σ ρ →
  post G Z φ H (m ρ st) (fun _ H' b _ => Q b H') (fun c d H' => W c d σ H') → wpW X e σ H Q
def SimA (es : List Expr) (m : M (List D)) : Prop := ∀ X W, Cok G k Γ X W → ∀ Z φ ρ st σ H Q, RS G Z φ st H → RepEn G Z φ H σ ρ →
  post G Z φ H (m ρ st) (fun φ' H' ds _ => ∀ vs, Reps G Z φ' H' vs ds → Q vs H') (fun c d H' => W c d σ H') → wpA X es σ H Q
/-- a new list: behind it stands a place that was free, of which nobody speaks -/
def SimF (e : Expr) (m : M (List D)) : Prop := ∀ X W, Cok G k Γ X W → ∀ Z φ ρ st σ H Q, RS G Z φ st H → RepEn G Z φ H σ ρ →
  (match m ρ st with
    | .ok ds st' => ∀ φ' H' a vs, Ext φ H φ' H' → H a = none → RS G (a :: Z) φ' st' H' → H' a = some (.lst vs) → Reps G (a :: Z) φ' H' vs ds → Q (.ref a) H'
    | .er c d st' => post G Z φ H (.er c d st' : Res D) (fun _ _ _ _ => True) (fun c d H' => W c d σ H')
    | .no => False) → wpE X e σ H Q
/-- a two-place operation, a call of a built-in thing, on data -/
def OpS (f : Value → Value → Sem Value) (g : D → D → Sto → Res D) : Prop := ∀ Γ X W, Cok G k Γ X W → ∀ Z φ st H Q x y d e, RS G Z φ st H → Rep G Z φ H x d → Rep G Z φ H y e →
  post G Z φ H (g d e st) (fun φ' H' z _ => ∀ v, Rep G Z φ' H' v z → Q v H') (fun _ _ _ => False) → ∀ pins s σ v u, Inv X pins σ H s → RelV x v → RelV y u → wpAny (model X.prog X.w) X.A (f v u) (EP X pins σ Q) X.xe s
def CallS (f : Value) (g : List D → Sto → Res D) : Prop := ∀ Γ X W, Cok G k Γ X W → ∀ Z φ st H Q xs ds, RS G Z φ st H → Reps G Z φ H xs ds →
  post G Z φ H (g ds st) (fun φ' H' z _ => ∀ v, Rep G Z φ' H' v z → Q v H') (fun _ _ _ => False) → ∀ pins s σ us, Inv X pins σ H s → Vals xs us → wpAny (model X.prog X.w) X.A (call f us) (EP X pins σ Q) X.xe s
/-- .. that makes a new list -/
def CallF (f : Value) (g : List D → Sto → Res (List D)) : Prop := ∀ Γ X W, Cok G k Γ X W → ∀ Z φ st H Q xs ds, RS G Z φ st H → Reps G Z φ H xs ds →
  (match g ds st with
    | .ok es st' => ∀ φ' H' a vs, Ext φ H φ' H' → H a = none → RS G (a :: Z) φ' st' H' → H' a = some (.lst vs) → Reps G (a :: Z) φ' H' vs es → Q (.ref a) H'
    | _ => False) → ∀ pins s σ us, Inv X pins σ H s → Vals xs us → wpAny (model X.prog X.w) X.A (call f us) (EP X pins σ Q) X.xe s
end

section
variable {G : Gb} {k : Nat} {Γ : Sc} {e a b c : Expr} {es : List Expr} {pos p : Pos} {m ma mb mc : M D} {mt mu : M Bool} {ml : M (List D)}
/-! ### new lists -/
def mPure (m : M (List D)) : M D := fun ρ st => (m ρ st).bind fun ds st => .ok (.lst ds) st
def mBox (m : M (List D)) : M D := fun ρ st => (m ρ st).bind fun ds st => .ok (.ref st.length) (st ++ [.lst ds])
theorem notin_hid {Z φ : List Addr} {st : Sto} {H : Hp} {q : Addr} (r : RS G Z φ st H) (h : H q = none) : q ∉ Z := fun z => (r.hid q z).1 h
theorem sim_pure (h : SimF G k Γ e ml) : SimE G k Γ e (mPure ml) := fun X W C Z φ ρ st σ H Q rs re po => by
  refine h X W C Z φ ρ st σ H Q rs re ?_
  unfold mPure at po
  split
  · rename_i ds st' e1
    rw [e1] at po
    intro φ' H' q vs x hq rs' hl rp
    exact po φ' H' x rs'.shown _ (.lst hl (rs'.hid q List.mem_cons_self).2 (notin_hid rs hq) (rp.mv Mv.show))
  · rename_i c d st' e1
    rw [e1] at po
    exact po
  · rename_i e1
    rw [e1] at po
    exact po
theorem sim_box (h : SimF G k Γ e ml) : SimE G k Γ e (mBox ml) := fun X W C Z φ ρ st σ H Q rs re po => by
  refine h X W C Z φ ρ st σ H Q rs re ?_
  unfold mBox at po
  split
  · rename_i ds st' e1
    rw [e1] at po
    intro φ' H' q vs x hq rs' hl rp
    have hz := notin_hid rs hq
    have x' : Ext φ H (φ' ++ [q]) H' := ⟨by obtain ⟨t, e⟩ := x.pre; exact ⟨t ++ [q], by rw [e, List.append_assoc]⟩, fun c o hc n => ⟨(x.keep c o hc n).1, fun z => by
      rcases List.mem_append.mp z with z | z
      · exact (x.keep c o hc n).2 z
      · exact ne_of_none hc hq (by simpa using z)⟩, x.frz⟩
    refine po (φ' ++ [q]) H' x' (rs'.boxed hl rp hz) _ (.ref ?_)
    rw [← rs'.len, List.getElem?_append_right (Nat.le_refl _), Nat.sub_self]
    rfl
  · rename_i c d st' e1
    rw [e1] at po
    exact po
  · rename_i e1
    rw [e1] at po
    exact po

/-! ### names, constants -/
def mVar (i : Nat) : M D := fun ρ st => match ρ[i]? with
  | some (some d) => .ok d st
  | _ => .no
def mC (d : D) : M D := fun _ st => .ok d st
def VisG (Γ : Sc) (x : Str) : Prop := Vis Γ.sc x
theorem sim_var (i : Nat) {x : Str} (hN : Γ.N[i]? = some x := by rfl) (hv : Vis Γ.sc x := by first | exact Or.inl rfl | exact Or.inr (Or.inl rfl) | exact Or.inr (Or.inr rfl))
    (hd : (x == ("__debug__" : Str)) = false := by decide) (hcd : (x == ("__classdict__" : Str)) = false := by decide) : SimE G k Γ (.Name x pos) (mVar i) := fun X W C Z φ ρ st σ H Q rs re po => by
  refine wp_pe (pe_var (i := i) (by rw [C.N]; exact hN) (by rw [C.sc]; exact hv) hd hcd) ?_
  unfold mVar at po
  split at po
  · rename_i d e1
    obtain ⟨v, e2, r⟩ := re.2 i d e1
    exact ⟨v, e2, po.ok rs v r⟩
  · exact po.elim
theorem sim_int {i : Int} {j : Nat} : SimE G k Γ (.Constant (.int i) j pos) (mC (.int i)) := fun X W C Z φ ρ st σ H Q rs re po => wp_pe pe_int (po.ok rs _ (.int i))
theorem sim_str {x : Str} {j : Nat} : SimE G k Γ (.Constant (.str x) j pos) (mC (.str x)) := fun X W C Z φ ρ st σ H Q rs re po => wp_pe pe_str (po.ok rs _ (.str x))
theorem sim_non {j : Nat} : SimE G k Γ (.Constant .none j pos) (mC .non) := fun X W C Z φ ρ st σ H Q rs re po => wp_pe pe_non (po.ok rs _ .non)
theorem sim_bl {x : Bool} {j : Nat} : SimE G k Γ (.Constant (.bool x) j pos) (mC (.bl x)) := fun X W C Z φ ρ st σ H Q rs re po => wp_pe pe_bl (po.ok rs _ (.bl x))

/-! ### operations -/
def mOp (g : D → D → Sto → Res D) (ma mb : M D) : M D := fun ρ st => (ma ρ st).bind fun x st => (mb ρ st).bind fun y st => g x y st
/-- the reading of an operation by its very wish -/
def rWp (X : Cx) (f : Value → Value → Sem Value) : R2 := fun x y H Q => ∀ pins s σ v u, Inv X pins σ H s → RelV x v → RelV y u → wpAny (model X.prog X.w) X.A (f v u) (EP X pins σ Q) X.xe s
theorem or_wp {X : Cx} {f : Value → Value → Sem Value} : OpR X f (rWp X f) := fun pins s σ H x y v u Q I r1 r2 h => h pins s σ v u I r1 r2
theorem post.noer {α : Type} {Z φ : List Addr} {H : Hp} {r : Res α} {Q : List Addr → Hp → α → Sto → Prop} {W : XK} (h : post G Z φ H r Q W) (n : ∀ c d st, r ≠ .er c d st) : post G Z φ H r Q (fun _ _ _ => False) := by
  unfold post at h ⊢
  split at h
  · exact h
  · exact absurd rfl (n _ _ _)
  · exact h
/-- operations raise nothing -/
def Calm2 (g : D → D → Sto → Res D) : Prop := ∀ x y st c d st', g x y st ≠ .er c d st'
theorem two {X : Cx} {W : WX} (C : Cok G k Γ X W) (ha : SimE G k Γ a ma) (hb : SimE G k Γ b mb) {f : Value → Value → Sem Value} {g : D → D → Sto → Res D} (ho : OpS G k f g) (hc : Calm2 g)
    {Z φ : List Addr} {ρ : En} {st : Sto} {σ : L2.St} {H : Hp} {Q : VK} (rs : RS G Z φ st H) (re : RepEn G Z φ H σ ρ)
    (po : post G Z φ H (mOp g ma mb ρ st) (fun φ' H' d _ => ∀ v, Rep G Z φ' H' v d → Q v H') (fun c d H' => W c d σ H')) : tOp (rWp X f) (wpE X a) (wpE X b) σ H Q := by
  refine ha X W C Z φ ρ st σ H _ rs re (po.bnd.mono fun φ1 H1 x st1 x1 rs1 p1 v rv => ?_)
  refine hb X W C Z φ1 ρ st1 σ H1 _ rs1 (re.ext x1) (p1.bnd.mono fun φ2 H2 y st2 x2 rs2 p2 u ru => ?_)
  exact fun pins s σ' v' u' I r1 r2 => ho Γ X W C Z φ2 st2 H2 Q v u x y rs2 (rv.ext x2) ru (p2.noer (hc _ _ _)) pins s σ' v' u' I r1 r2
theorem sim_op {op : Operator} {g : D → D → Sto → Res D} (ho : OpS G k (binaryOp op) g) (hc : Calm2 g) (ha : SimE G k Γ a ma) (hb : SimE G k Γ b mb) : SimE G k Γ (.BinOp a op b pos) (mOp g ma mb) :=
  fun X W C Z φ ρ st σ H Q rs re po => wp_pe (pe_op or_wp pe_wp pe_wp) (two C ha hb ho hc rs re po)
theorem sim_cmp {op : CmpOp} {g : D → D → Sto → Res D} (ho : OpS G k (compareOp op) g) (hc : Calm2 g) (ha : SimE G k Γ a ma) (hb : SimE G k Γ b mb) (hm : behindInMarks op b = false := by first | exact nomark _ | rfl) :
    SimE G k Γ (.Compare a [op] [b] pos) (mOp g ma mb) := fun X W C Z φ ρ st σ H Q rs re po => wp_pe (pe_cmpR or_wp pe_wp pe_wp hm) (two C ha hb ho hc rs re po)

/-! ### tests -/
def asB : D → Sto → Res Bool := fun d st => match d with
  | .bl b => .ok b st
  | _ => .no
/-- a value that is True or False, as a test -/
def mB (m : M D) : M Bool := fun ρ st => (m ρ st).bind asB
theorem post.asB {Z φ : List Addr} {H : Hp} {d : D} {st : Sto} {Q : List Addr → Hp → Bool → Sto → Prop} {W : XK} {v : V} (h : post G Z φ H (asB d st) Q W) (rs : RS G Z φ st H) (r : Rep G Z φ H v d) : ∃ c, v = .bl c ∧ Q φ H c st := by
  cases r with
  | bl b => exact ⟨b, rfl, h.ok rs⟩
  | _ => exact (show False from h).elim
theorem sim_cmpT {op : CmpOp} {g : D → D → Sto → Res D} (ho : OpS G k (compareOp op) g) (hc : Calm2 g) (ha : SimE G k Γ a ma) (hb : SimE G k Γ b mb) (hm : behindInMarks op b = false := by first | exact nomark _ | rfl) :
    SimT G k Γ (.Compare a [op] [b] pos) (mB (mOp g ma mb)) := fun X W C Z φ ρ st σ H Q rs re po => wp_pt (pt_cmpR or_wp pe_wp pe_wp hm) (by
  have h : post G Z φ H (mOp g ma mb ρ st) (fun φ' H' d _ => ∀ v, Rep G Z φ' H' v d → ∃ c, v = .bl c ∧ Q c H') (fun c d H' => W c d σ H') :=
    po.bnd.mono fun φ1 H1 d st1 x1 rs1 p1 v rv => p1.asB rs1 rv
  exact two C ha hb ho hc rs re h)
/-- any other value that is True or False -/
theorem sim_valT (h : SimE G k Γ e m) (he : ∀ (env : Env) whole, isTrue e env whole = (do let v ← whole; standAt e.pos; holding [v] (truthy v)) := by intro _ _; rfl) : SimT G k Γ e (mB m) :=
  fun X W C Z φ ρ st σ H Q rs re po => wp_pt (pt_val pe_wp (he X.env)) (h X W C Z φ ρ st σ H _ rs re (po.bnd.mono fun φ1 H1 d st1 x1 rs1 p1 v rv => p1.asB rs1 rv))
def mNotT (m : M Bool) : M Bool := fun ρ st => (m ρ st).bind fun b st => .ok (!b) st
theorem sim_notT (h : SimT G k Γ a mt) : SimT G k Γ (.UnaryOp .Not a pos) (mNotT mt) := fun X W C Z φ ρ st σ H Q rs re po =>
  wp_pt (pt_not pt_wp) (h X W C Z φ ρ st σ H _ rs re (po.bnd.mono fun φ1 H1 b st1 x1 rs1 p1 => p1.ok rs1))
def mAndT (m n : M Bool) : M Bool := fun ρ st => (m ρ st).bind fun b st => if b = true then n ρ st else .ok false st
def mOrT (m n : M Bool) : M Bool := fun ρ st => (m ρ st).bind fun b st => if b = true then .ok true st else n ρ st
theorem sim_and1 (h : SimT G k Γ a mt) : SimW G k Γ (.BoolOp .And [a] pos) mt := fun X W C Z φ ρ st σ H Q rs re po => wp_pw (pw_and1 pt_wp) (h X W C Z φ ρ st σ H _ rs re po)
theorem sim_or1 (h : SimT G k Γ a mt) : SimW G k Γ (.BoolOp .Or [a] pos) mt := fun X W C Z φ ρ st σ H Q rs re po => wp_pw (pw_or1 pt_wp) (h X W C Z φ ρ st σ H _ rs re po)
theorem sim_andW (h : SimT G k Γ a mt) (h' : SimW G k Γ (.BoolOp .And (b :: es) pos) mu) : SimW G k Γ (.BoolOp .And (a :: b :: es) pos) (mAndT mt mu) := fun X W C Z φ ρ st σ H Q rs re po =>
  wp_pw (pw_and pt_wp pw_wp) (h X W C Z φ ρ st σ H _ rs re (po.bnd.mono fun φ1 H1 x st1 x1 rs1 p1 => by
    cases x with
    | true => exact h' X W C Z φ1 ρ st1 σ H1 _ rs1 (re.ext x1) p1
    | false => exact p1.ok rs1))
theorem sim_orW (h : SimT G k Γ a mt) (h' : SimW G k Γ (.BoolOp .Or (b :: es) pos) mu) : SimW G k Γ (.BoolOp .Or (a :: b :: es) pos) (mOrT mt mu) := fun X W C Z φ ρ st σ H Q rs re po =>
  wp_pw (pw_or pt_wp pw_wp) (h X W C Z φ ρ st σ H _ rs re (po.bnd.mono fun φ1 H1 x st1 x1 rs1 p1 => by
    cases x with
    | true => exact p1.ok rs1
    | false => exact h' X W C Z φ1 ρ st1 σ H1 _ rs1 (re.ext x1) p1))
theorem sim_w (h : SimW G k Γ e mt) : SimT G k Γ e mt := fun X W C Z φ ρ st σ H Q rs re po => fun pins s I => h X W C Z φ ρ st σ H Q rs re po _ pins s I
/-! ### and, or, not as values: of True and False -/
def ofB (m : M Bool) : M D := fun ρ st => (m ρ st).bind fun b st => .ok (.bl b) st
def mAnd (m n : M D) : M D := fun ρ st => (mB m ρ st).bind fun b st => if b = true then n ρ st else .ok (.bl false) st
def mOr (m n : M D) : M D := fun ρ st => (mB m ρ st).bind fun b st => if b = true then .ok (.bl true) st else n ρ st
def mNot (m : M D) : M D := fun ρ st => (mB m ρ st).bind fun b st => .ok (.bl (!b)) st
theorem sim_one {op : BoolOp} (h : SimE G k Γ a m) : SimE G k Γ (.BoolOp op [a] pos) m := fun X W C Z φ ρ st σ H Q rs re po => wp_pe (pe_one pe_wp) (h X W C Z φ ρ st σ H Q rs re po)
theorem sim_and (h : SimE G k Γ a ma) (h' : SimE G k Γ (.BoolOp .And (b :: es) pos) mb) : SimE G k Γ (.BoolOp .And (a :: b :: es) pos) (mAnd ma mb) := fun X W C Z φ ρ st σ H Q rs re po =>
  wp_pe (pe_and pe_wp pe_wp) (h X W C Z φ ρ st σ H _ rs re (post.mono (post.bnd (post.bnd po)) fun φ1 H1 d st1 x1 rs1 p1 v rv => by
    obtain ⟨c, rfl, p2⟩ := p1.asB rs1 rv
    refine ⟨c, rfl, ?_⟩
    cases c with
    | true => exact h' X W C Z φ1 ρ st1 σ H1 _ rs1 (re.ext x1) p2
    | false => exact p2.ok rs1 _ (.bl false)))
end
end Kp

/-! # Kp, 3: more expressions: or, not, if, displays, calls of built-ins, of own defs, chains -/
namespace Kp
open PySem PySem.Spec L2
open PyProof.Rows hiding St

section
variable {G : Gb} {k : Nat} {Γ : Sc} {e a b c o : Expr} {es : List Expr} {pos p apos cpos : Pos} {m ma mb mc : M D} {mt mu : M Bool} {ml : M (List D)}
theorem sim_or (h : SimE G k Γ a ma) (h' : SimE G k Γ (.BoolOp .Or (b :: es) pos) mb) : SimE G k Γ (.BoolOp .Or (a :: b :: es) pos) (mOr ma mb) := fun X W C Z φ ρ st σ H Q rs re po =>
  wp_pe (pe_or pe_wp pe_wp) (h X W C Z φ ρ st σ H _ rs re (post.mono (post.bnd (post.bnd po)) fun φ1 H1 d st1 x1 rs1 p1 v rv => by
    obtain ⟨c, rfl, p2⟩ := p1.asB rs1 rv
    refine ⟨c, rfl, ?_⟩
    cases c with
    | true => exact p2.ok rs1 _ (.bl true)
    | false => exact h' X W C Z φ1 ρ st1 σ H1 _ rs1 (re.ext x1) p2))
theorem sim_not (h : SimE G k Γ a ma) : SimE G k Γ (.UnaryOp .Not a pos) (mNot ma) := fun X W C Z φ ρ st σ H Q rs re po =>
  wp_pe (pe_not pe_wp) (h X W C Z φ ρ st σ H _ rs re (post.mono (post.bnd (post.bnd po)) fun φ1 H1 d st1 x1 rs1 p1 v rv => by
    obtain ⟨c, rfl, p2⟩ := p1.asB rs1 rv
    exact ⟨c, rfl, p2.ok rs1 _ (.bl _)⟩))
/-- not a, a any test, as a value: by the test of a -/
def mIf (t : M Bool) (m n : M D) : M D := fun ρ st => (t ρ st).bind fun b st => if b = true then m ρ st else n ρ st
theorem sim_if (ht : SimT G k Γ c mt) (ha : SimE G k Γ a ma) (hb : SimE G k Γ b mb) : SimE G k Γ (.IfExp c a b pos) (mIf mt ma mb) := fun X W C Z φ ρ st σ H Q rs re po =>
  wp_pe (pe_ifExp pt_wp pe_wp pe_wp) (ht X W C Z φ ρ st σ H _ rs re (post.mono (post.bnd po) fun φ1 H1 x st1 x1 rs1 p1 => by
    cases x with
    | true => exact ha X W C Z φ1 ρ st1 σ H1 _ rs1 (re.ext x1) p1
    | false => exact hb X W C Z φ1 ρ st1 σ H1 _ rs1 (re.ext x1) p1))

/-! ### arguments, displays -/
def mNil : M (List D) := fun _ st => .ok [] st
def mCons (m : M D) (r : M (List D)) : M (List D) := fun ρ st => (m ρ st).bind fun x st => (r ρ st).bind fun xs st => .ok (x :: xs) st
theorem sim_nil : SimA G k Γ [] mNil := fun X W C Z φ ρ st σ H Q rs re po => wp_pa pa_nil (po.ok rs [] .nil)
theorem sim_cons (h : SimE G k Γ e m) (h' : SimA G k Γ es ml) (hs : ∀ env : Env, starEach (e :: es) env = (false, eval e env) :: starEach es env := by intro _; rfl) : SimA G k Γ (e :: es) (mCons m ml) := fun X W C Z φ ρ st σ H Q rs re po =>
  wp_pa (pa_cons pe_wp pa_wp (hs X.env)) (h X W C Z φ ρ st σ H _ rs re (post.mono (post.bnd po) fun φ1 H1 x st1 x1 rs1 p1 v rv =>
    h' X W C Z φ1 ρ st1 σ H1 _ rs1 (re.ext x1) (post.mono (post.bnd p1) fun φ2 H2 xs st2 x2 rs2 p2 vs rvs => p2.ok rs2 _ (.cons (rv.ext x2) rvs))))
abbrev szMax : Nat := 16777216
theorem sz_ok {n : Nat} (h : n ≤ szMax) : n ≤ sizeLine := by rw [sizeLine_eq]; exact h
def mTup (r : M (List D)) : M D := fun ρ st => (r ρ st).bind fun xs st => if xs.length ≤ szMax then .ok (.tup xs) st else .no
/-- a new tuple, tracked -/
theorem rep_tup {Z φ : List Addr} {H : Hp} {q : Addr} {vs : List V} {ds : List D} {st : Sto} (rs : RS G Z φ st H) (h : H q = none) (r : Reps G Z φ H vs ds) : Rep G Z φ (upd H q (.tup vs)) (.ref q) (.tup ds) :=
  .tup (.inl ⟨.inl upd_same, rs.fresh h⟩) (r.ext (Ext.new h))
theorem sim_tup {x1 : Nat} (h : SimA G k Γ es ml) : SimE G k Γ (.Tuple es x1 pos) (mTup ml) := fun X W C Z φ ρ st σ H Q rs re po =>
  wp_pe (pe_tup pa_wp) (h X W C Z φ ρ st σ H _ rs re (post.mono (post.bnd po) fun φ1 H1 xs st1 x1 rs1 p1 vs rvs => by
    split at p1
    · rename_i hz
      exact ⟨by rw [rvs.length]; exact sz_ok hz, fun q hq => (p1.ext (Ext.new hq)).ok (rs1.new hq) _ (rep_tup rs1 hq rvs)⟩
    · exact p1.elim))
def mLst (r : M (List D)) : M (List D) := fun ρ st => (r ρ st).bind fun xs st => if xs.length ≤ szMax then .ok xs st else .no
/-- from a post to what SimF asks -/
theorem toF {Z φ : List Addr} {H : Hp} {Q : VK} {W : XK} {r : Res (List D)} (h : (match r with
    | .ok ds st' => ∀ φ' H' a vs, Ext φ H φ' H' → H a = none → RS G (a :: Z) φ' st' H' → H' a = some (.lst vs) → Reps G (a :: Z) φ' H' vs ds → Q (.ref a) H'
    | .er c d st' => post G Z φ H (.er c d st' : Res D) (fun _ _ _ _ => True) W
    | .no => False)) : post G Z φ H r (fun φ' H' ds st' => ∀ a, H' a = none → ∀ vs, Reps G Z φ' H' vs ds → Q (.ref a) (upd H' a (.lst vs))) W := by
  cases r with
  | ok ds st' =>
    intro φ' H' x rs a ha vs r
    have hh : H a = none := by
      cases q : H a with
      | none => rfl
      | some o =>
        by_cases n : a ∈ φ
        · obtain ⟨t, e⟩ := x.pre
          exact absurd ha (rs.there (by rw [e]; exact List.mem_append_left _ n))
        · have := (x.keep a o q n).1
          rw [ha] at this; cases this
    exact h φ' (upd H' a (.lst vs)) a vs (x.trans (Ext.new ha)) hh (rs.newHid ha) upd_same ((r.mv (Mv.hide ha)).mv (Ext.new ha).mv)
  | er c d st' => exact h
  | no => exact h
theorem sim_lst (h : SimA G k Γ es ml) : SimF G k Γ (.List es pos) (mLst ml) := fun X W C Z φ ρ st σ H Q rs re po =>
  wp_pe (pe_lst pa_wp) (h X W C Z φ ρ st σ H _ rs re (post.mono (post.bnd (toF po)) fun φ1 H1 xs st1 x1 rs1 p1 vs rvs => by
    split at p1
    · rename_i hz
      exact ⟨by rw [rvs.length]; exact sz_ok hz, fun q hq => p1.ok rs1 q hq vs rvs⟩
    · exact p1.elim))

/-! ### calls of built-ins -/
def mCall (g : List D → Sto → Res D) (r : M (List D)) : M D := fun ρ st => (r ρ st).bind g
def mCallF (g : List D → Sto → Res (List D)) (r : M (List D)) : M (List D) := fun ρ st => (r ρ st).bind g
def Calm1 {α : Type} (g : List D → Sto → Res α) : Prop := ∀ x st c d st', g x st ≠ .er c d st'
def rcWp (X : Cx) (f : Value) : List V → Hp → VK → Prop := fun xs H Q => ∀ pins s σ us, Inv X pins σ H s → Vals xs us → wpAny (model X.prog X.w) X.A (call f us) (EP X pins σ Q) X.xe s
theorem cr_wp {X : Cx} {f : Value} : CallR X f (rcWp X f) := fun pins s σ H xs us Q I r h => h pins s σ us I r
def GlG (Γ : Sc) (x : Str) : Prop := Γ.sc.names.lookup x = some .globalImplicit
theorem Cok.gl {X : Cx} {W : WX} (C : Cok G k Γ X W) {x : Str} (h : GlG Γ x) : Gl X x := by
  show X.env.scope.names.lookup x = _
  rw [C.sc]
  exact h
theorem sim_callB {id : String} {x : Str} {g : List D → Sto → Res D} (hf : CallS G k (.builtin id) g) (hc : Calm1 g) (hm : G.mg x = none) (h : SimA G k Γ (e :: es) ml) (hg : GlG Γ x := by rfl) (hv : bootBuiltins x = some (.builtin id) := by decide +kernel)
    (hn : x ≠ "__name__" := by decide) (hdb : (x == ("__debug__" : Str)) = false := by decide) (he : ∀ env : Env, starEach (e :: es) env = (false, eval e env) :: starEach es env := by intro _; rfl)
    (hpl : ∀ env : Env, (backTo pos (starEach es env)).any (·.1) = false := by intro _; rfl) : SimE G k Γ (.Call (.Name x p) (e :: es) [] pos) (mCall g ml) := fun X W C Z φ ρ st σ H Q rs re po =>
  wp_pe (pe_callB cr_wp (C.gl hg) (by rw [C.mg]; exact hm) hv pa_wp hn hdb (he X.env) (hpl X.env)) (h X W C Z φ ρ st σ H _ rs re (post.mono (post.bnd po) fun φ1 H1 xs st1 x1 rs1 p1 vs rvs =>
    fun pins s σ' us I r => hf Γ X W C Z φ1 st1 H1 Q vs xs rs1 rvs (p1.noer (hc _ _)) pins s σ' us I r))
theorem sim_callTy {T : String} {x : Str} {g : List D → Sto → Res D} (hf : CallS G k (.type T) g) (hc : Calm1 g) (hm : G.mg x = none) (h : SimA G k Γ (e :: es) ml) (hg : GlG Γ x := by rfl) (hv : bootBuiltins x = some (.type T) := by decide +kernel)
    (hn : x ≠ "__name__" := by decide) (hdb : (x == ("__debug__" : Str)) = false := by decide) (he : ∀ env : Env, starEach (e :: es) env = (false, eval e env) :: starEach es env := by intro _; rfl)
    (hpl : ∀ env : Env, (backTo pos (starEach es env)).any (·.1) = false := by intro _; rfl) : SimE G k Γ (.Call (.Name x p) (e :: es) [] pos) (mCall g ml) := fun X W C Z φ ρ st σ H Q rs re po =>
  wp_pe (pe_callTy cr_wp (C.gl hg) (by rw [C.mg]; exact hm) hv pa_wp hn hdb (he X.env) (hpl X.env)) (h X W C Z φ ρ st σ H _ rs re (post.mono (post.bnd po) fun φ1 H1 xs st1 x1 rs1 p1 vs rvs =>
    fun pins s σ' us I r => hf Γ X W C Z φ1 st1 H1 Q vs xs rs1 rvs (p1.noer (hc _ _)) pins s σ' us I r))
theorem hide_old {Z φ φ1 : List Addr} {H H1 : Hp} {st1 : Sto} {a : Addr} (x1 : Ext φ H φ1 H1) (rs1 : RS G Z φ1 st1 H1) (ha : H1 a = none) : H a = none := by
  cases q : H a with
  | none => rfl
  | some o =>
    by_cases n : a ∈ φ
    · obtain ⟨t, e⟩ := x1.pre
      exact absurd ha (rs1.there (by rw [e]; exact List.mem_append_left _ n))
    · have := (x1.keep a o q n).1
      rw [ha] at this; cases this
theorem bndF {α : Type} {Z φ : List Addr} {H : Hp} {Q : VK} {W : XK} {r : Res α} {f : α → Sto → Res (List D)} (hc : ∀ a st c d st', f a st ≠ .er c d st') (h : (match r.bind f with
    | .ok ds st' => ∀ φ' H' a vs, Ext φ H φ' H' → H a = none → RS G (a :: Z) φ' st' H' → H' a = some (.lst vs) → Reps G (a :: Z) φ' H' vs ds → Q (.ref a) H'
    | .er c d st' => post G Z φ H (.er c d st' : Res D) (fun _ _ _ _ => True) W
    | .no => False)) : post G Z φ H r (fun φ1 H1 a st1 => (match f a st1 with
    | .ok ds st' => ∀ φ' H' a vs, Ext φ1 H1 φ' H' → H1 a = none → RS G (a :: Z) φ' st' H' → H' a = some (.lst vs) → Reps G (a :: Z) φ' H' vs ds → Q (.ref a) H'
    | _ => False)) W := by
  cases r with
  | ok a st1 =>
    intro φ1 H1 x1 rs1
    have h' : (match f a st1 with
    | .ok ds st' => ∀ φ' H' a vs, Ext φ H φ' H' → H a = none → RS G (a :: Z) φ' st' H' → H' a = some (.lst vs) → Reps G (a :: Z) φ' H' vs ds → Q (.ref a) H'
    | .er c d st' => post G Z φ H (.er c d st' : Res D) (fun _ _ _ _ => True) W
    | .no => False) := h
    split
    · rename_i ds st2 e1
      rw [e1] at h'
      exact fun φ' H' a' vs y ha rs2 hl rp => h' φ' H' a' vs (x1.trans y) (hide_old x1 rs1 ha) rs2 hl rp
    · rename_i n1
      cases e1 : f a st1 with
      | ok ds st2 => exact absurd e1 (n1 _ _)
      | er c d st2 => exact absurd e1 (hc _ _ _ _ _)
      | no => rw [e1] at h'; exact h'
  | er c d st1 => exact h
  | no => exact h
theorem sim_callBF {id : String} {x : Str} {g : List D → Sto → Res (List D)} (hf : CallF G k (.builtin id) g) (hc : Calm1 g) (hm : G.mg x = none) (h : SimA G k Γ (e :: es) ml) (hg : GlG Γ x := by rfl) (hv : bootBuiltins x = some (.builtin id) := by decide +kernel)
    (hn : x ≠ "__name__" := by decide) (hdb : (x == ("__debug__" : Str)) = false := by decide) (he : ∀ env : Env, starEach (e :: es) env = (false, eval e env) :: starEach es env := by intro _; rfl)
    (hpl : ∀ env : Env, (backTo pos (starEach es env)).any (·.1) = false := by intro _; rfl) : SimF G k Γ (.Call (.Name x p) (e :: es) [] pos) (mCallF g ml) := fun X W C Z φ ρ st σ H Q rs re po =>
  wp_pe (pe_callB cr_wp (C.gl hg) (by rw [C.mg]; exact hm) hv pa_wp hn hdb (he X.env) (hpl X.env)) (h X W C Z φ ρ st σ H _ rs re (post.mono (bndF hc po) fun φ1 H1 xs st1 x1 rs1 p1 vs rvs =>
    fun pins s σ' us I r => hf Γ X W C Z φ1 st1 H1 Q vs xs rs1 rvs p1 pins s σ' us I r))
theorem sim_callTyF {T : String} {x : Str} {g : List D → Sto → Res (List D)} (hf : CallF G k (.type T) g) (hc : Calm1 g) (hm : G.mg x = none) (h : SimA G k Γ (e :: es) ml) (hg : GlG Γ x := by rfl) (hv : bootBuiltins x = some (.type T) := by decide +kernel)
    (hn : x ≠ "__name__" := by decide) (hdb : (x == ("__debug__" : Str)) = false := by decide) (he : ∀ env : Env, starEach (e :: es) env = (false, eval e env) :: starEach es env := by intro _; rfl)
    (hpl : ∀ env : Env, (backTo pos (starEach es env)).any (·.1) = false := by intro _; rfl) : SimF G k Γ (.Call (.Name x p) (e :: es) [] pos) (mCallF g ml) := fun X W C Z φ ρ st σ H Q rs re po =>
  wp_pe (pe_callTy cr_wp (C.gl hg) (by rw [C.mg]; exact hm) hv pa_wp hn hdb (he X.env) (hpl X.env)) (h X W C Z φ ρ st σ H _ rs re (post.mono (bndF hc po) fun φ1 H1 xs st1 x1 rs1 p1 vs rvs =>
    fun pins s σ' us I r => hf Γ X W C Z φ1 st1 H1 Q vs xs rs1 rvs p1 pins s σ' us I r))

/-! ### built-in methods: the receiver's type is known by its data -/
def tyD (st : Sto) : D → Option String
  | .str _ => some "str"
  | .lst _ => some "list"
  | .fls _ => some "list"
  | .tup _ => some "tuple"
  | .ref n => match st[n]? with
    | some (.lst _) => some "list"
    | some (.dk _) => some "dict"
    | some (.dt _) => some "dict"
    | _ => none
  | _ => none
/-! ### chains: a op b op' c -/
def mChain (g g' : D → D → Sto → Res D) (ma mb mc : M D) : M D := fun ρ st => (ma ρ st).bind fun x st => (mb ρ st).bind fun y st => ((g x y st).bind asB).bind fun t st => if t = true then (mc ρ st).bind fun z st => g' y z st else .ok (.bl false) st
theorem three {X : Cx} {W : WX} (C : Cok G k Γ X W) {f f' : Value → Value → Sem Value} {g g' : D → D → Sto → Res D} (ho : OpS G k f g) (hc : Calm2 g) (ho' : OpS G k f' g') (hc' : Calm2 g') (ha : SimE G k Γ a ma) (hb : SimE G k Γ b mb) (hcc : SimE G k Γ c mc)
    {Z φ : List Addr} {ρ : En} {st : Sto} {σ : L2.St} {H : Hp} {Q : VK} (rs : RS G Z φ st H) (re : RepEn G Z φ H σ ρ)
    (po : post G Z φ H (mChain g g' ma mb mc ρ st) (fun φ' H' d _ => ∀ v, Rep G Z φ' H' v d → Q v H') (fun c d H' => W c d σ H')) : tChain (rWp X f) (rWp X f') (wpE X a) (wpE X b) (wpE X c) σ H Q := by
  refine ha X W C Z φ ρ st σ H _ rs re (post.mono (post.bnd po) fun φ1 H1 x st1 x1 rs1 p1 v rv => ?_)
  refine hb X W C Z φ1 ρ st1 σ H1 _ rs1 (re.ext x1) (post.mono (post.bnd p1) fun φ2 H2 y st2 x2 rs2 p2 u ru => ?_)
  refine fun pins s σ' v' u' I r1 r2 => ho Γ X W C Z φ2 st2 H2 _ v u x y rs2 (rv.ext x2) ru (post.noer (W := fun c d H' => W c d σ H') ?_ (hc _ _ _)) pins s σ' v' u' I r1 r2
  · refine post.mono (post.bnd (post.bnd p2)) fun φ3 H3 d st3 x3 rs3 p3 w rw' => ?_
    obtain ⟨t, rfl, p4⟩ := p3.asB rs3 rw'
    refine ⟨t, rfl, ?_⟩
    cases t with
    | false => exact p4.ok rs3 _ (.bl false)
    | true =>
      refine hcc X W C Z φ3 ρ st3 σ H3 _ rs3 ((re.ext x1).ext (x2.trans x3)) (post.mono (post.bnd p4) fun φ4 H4 z st4 x4 rs4 p5 t rt => ?_)
      exact fun pins s σ' v' u' I r1 r2 => ho' Γ X W C Z φ4 st4 H4 Q u t y z rs4 (ru.ext (x3.trans x4)) rt (p5.noer (hc' _ _ _)) pins s σ' v' u' I r1 r2
theorem sim_chain {op op' : CmpOp} {g g' : D → D → Sto → Res D} (ho : OpS G k (compareOp op) g) (hc : Calm2 g) (ho' : OpS G k (compareOp op') g') (hc' : Calm2 g') (ha : SimE G k Γ a ma) (hb : SimE G k Γ b mb) (hcc : SimE G k Γ c mc)
    (hm : lastMarks [op, op'] [b, c] = false := by with_unfolding_all rfl) : SimE G k Γ (.Compare a [op, op'] [b, c] pos) (mChain g g' ma mb mc) := fun X W C Z φ ρ st σ H Q rs re po =>
  wp_pe (pe_chain or_wp or_wp pe_wp pe_wp pe_wp hm) (three C ho hc ho' hc' ha hb hcc rs re po)
theorem sim_chainT {op op' : CmpOp} {g g' : D → D → Sto → Res D} (ho : OpS G k (compareOp op) g) (hc : Calm2 g) (ho' : OpS G k (compareOp op') g') (hc' : Calm2 g') (ha : SimE G k Γ a ma) (hb : SimE G k Γ b mb) (hcc : SimE G k Γ c mc)
    (hm : lastMarks [op, op'] [b, c] = false := by with_unfolding_all rfl) : SimT G k Γ (.Compare a [op, op'] [b, c] pos) (mB (mChain g g' ma mb mc)) := fun X W C Z φ ρ st σ H Q rs re po =>
  wp_pt (pt_chain or_wp or_wp pe_wp pe_wp pe_wp hm) (three C ho hc ho' hc' ha hb hcc rs re (Q := fun x H' => ∃ k, x = .bl k ∧ Q k H') (post.mono (post.bnd po) fun φ1 H1 d st1 x1 rs1 p1 v rv => p1.asB rs1 rv))
end
end Kp

/-! # Kp, 4: own defs' promises and calls; statements; targets; loops -/
namespace Kp
open PySem PySem.Spec L2
open PyProof.Rows hiding St

/-! ### a def's promise: it does what its mirror does -/
def spU (G : Gb) (n : Nat) (f : List D → Sto → Res D) : Sp := fun vs H Q E => vs.length = n ∧ ∃ Z φ st ds, RS G Z φ st H ∧ Reps G Z φ H vs ds ∧ post G Z φ H (f ds st) (fun φ' H' d _ => ∀ v, Rep G Z φ' H' v d → Q v H') E
abbrev FnU (G : Gb) (k : Nat) (fa : Addr) (fd : FuncData) (ps : List Str) (f : List D → Sto → Res D) : Prop := FnOk G.P G.w G.K G.mg G.base (L2N.CX G.P G.w) k fa fd ps (spU G ps.length f)
/-- the def that stands at the name x: n parameters; dds: the defaults that fill up -/
structure Fn (G : Gb) (k : Nat) (x : Str) (n : Nat) (f : List D → Sto → Res D) (dds : List D) : Prop where
  ex : ∃ (fa : Addr) (fd : FuncData) (ps : List Str) (ds : List Value) (dvs : List V), G.mg x = some (.ref fa) ∧ PySem.W.keepIn G.K (.ref fa) = true ∧ Binds G.K fd ps ds ∧ Vals dvs ds ∧ (∀ Z φ H, Reps G Z φ H dvs dds) ∧ ps.length = n ∧ FnU G k fa fd ps f
theorem Fn.mono {G : Gb} {j k : Nat} {x : Str} {n : Nat} {f : List D → Sto → Res D} {dds : List D} (h : Fn G j x n f dds) (l : j ≤ k) : Fn G k x n f dds := by
  obtain ⟨fa, fd, ps, ds, dvs, a, b, c, d, e, z, F⟩ := h.ex
  exact ⟨fa, fd, ps, ds, dvs, a, b, c, d, e, z, F.mono l⟩
/-- a call of f: as many arguments as it wants, less the defaults -/
def mFn (n : Nat) (f : List D → Sto → Res D) (dds : List D) (r : M (List D)) : M D := fun ρ st => (r ρ st).bind fun ds st => if (ds ++ dds).length = n then f (ds ++ dds) st else .no
section
variable {G : Gb} {k : Nat} {Γ : Sc} {e a b c o : Expr} {es : List Expr} {pos p apos cpos : Pos} {m ma mb mc : M D} {mt mu : M Bool} {ml : M (List D)}
theorem sim_fn {x : Str} {n : Nat} {f : List D → Sto → Res D} {dds : List D} (F : Fn G k x n f dds) (h : SimA G k Γ (e :: es) ml) (hg : GlG Γ x := by rfl) (hdb : (x == ("__debug__" : Str)) = false := by decide)
    (he : ∀ env : Env, starEach (e :: es) env = (false, eval e env) :: starEach es env := by intro _; rfl) (hpl : ∀ env : Env, (backTo pos (starEach es env)).any (·.1) = false := by intro _; rfl) :
    SimE G k Γ (.Call (.Name x p) (e :: es) [] pos) (mFn n f dds ml) := fun X W C Z φ ρ st σ H Q rs re po => by
  obtain ⟨fa, fd, ps, ds, dvs, g1, g2, g3, g4, g5, g6, F⟩ := F.ex
  have F' : FnOk X.prog X.w X.K X.mg X.base (L2N.CX X.prog X.w) k fa fd ps (spU G ps.length f) := by rw [C.prog, C.w, C.K, C.mg, C.base]; exact F
  refine wp_pe (pe_callSD (E := WE W) F' C.room (C.gl hg) (by rw [C.mg]; exact g1) (by rw [C.K]; exact g2) (by rw [C.K]; exact g3) g4 (fun σ => L2N.passAt C.tk σ) pa_wp hdb (he X.env) (hpl X.env)) ?_
  refine h X W C Z φ ρ st σ H _ rs re (post.mono (post.bnd po) fun φ1 H1 xs st1 x1 rs1 p1 vs rvs => ?_)
  split at p1
  · rename_i hl
    have r2 : Reps G Z φ1 H1 (vs ++ dvs) (xs ++ dds) := rvs.append (g5 Z φ1 H1)
    exact ⟨by rw [r2.length, hl, g6], Z, φ1, st1, _, rs1, r2, p1⟩
  · exact p1.elim
/-- a def without arguments -/
theorem sim_fn0 {x : Str} {n : Nat} {f : List D → Sto → Res D} {dds : List D} (F : Fn G k x n f dds) (hg : GlG Γ x := by rfl) (hdb : (x == ("__debug__" : Str)) = false := by decide) :
    SimE G k Γ (.Call (.Name x p) [] [] pos) (mFn n f dds mNil) := fun X W C Z φ ρ st σ H Q rs re po => by
  obtain ⟨fa, fd, ps, ds, dvs, g1, g2, g3, g4, g5, g6, F⟩ := F.ex
  have F' : FnOk X.prog X.w X.K X.mg X.base (L2N.CX X.prog X.w) k fa fd ps (spU G ps.length f) := by rw [C.prog, C.w, C.K, C.mg, C.base]; exact F
  intro pins s I
  refine wpAny_Call_Name_kw (ld_glob I (C.gl hg) (by rw [C.mg]; exact g1) ?_ hdb)
  have F2 : FnOk X.prog X.w X.K X.mg X.base (L2N.CX X.prog X.w) k fa fd ps (spU G ps.length f) := F'
  refine PySem.W.callWith_K0 I.kIn (by rw [C.K]; exact g2) (run_fnSD (us := []) (vs := []) F2 C.room (by rw [C.K]; exact g3) g4 (L2N.passAt C.tk σ) I .nil ?_)
  have po' : post G Z φ H (if ([] ++ dds : List D).length = n then f ([] ++ dds) st else .no) (fun φ' H' d _ => ∀ v, Rep G Z φ' H' v d → Q v H') (fun c d H' => W c d σ H') := po
  split at po'
  · rename_i hl
    have r2 : Reps G Z φ H ([] ++ dvs) ([] ++ dds) := Reps.append .nil (g5 Z φ H)
    exact ⟨by rw [r2.length, hl, g6], Z, φ, st, _, rs, r2, po'⟩
  · exact po'.elim
end

/-! ### statements -/
inductive SRes where
  | nx (ρ : En) (s : Sto) | rt (d : D) (s : Sto) | bk (ρ : En) (s : Sto) | ct (ρ : En) (s : Sto) | er (c : Str) (d : D) (ρ : En) (s : Sto) | no
abbrev MS := En → Sto → SRes
def postS (G : Gb) (Z φ : List Addr) (H : Hp) (r : SRes) (D : Ends) (W : WX) : Prop := match r with
  | .nx ρ st => ∀ φ' H' σ', Ext φ H φ' H' → RS G Z φ' st H' → RepEn G Z φ' H' σ' ρ → D.nx σ' H'
  | .bk ρ st => ∀ φ' H' σ', Ext φ H φ' H' → RS G Z φ' st H' → RepEn G Z φ' H' σ' ρ → D.bk σ' H'
  | .ct ρ st => ∀ φ' H' σ', Ext φ H φ' H' → RS G Z φ' st H' → RepEn G Z φ' H' σ' ρ → D.ct σ' H'
  | .rt d st => ∀ φ' H' v, Ext φ H φ' H' → RS G Z φ' st H' → Rep G Z φ' H' v d → D.rt v H'
  | .er c d ρ st => ∀ φ' H' σ' A dx v, Ext φ H φ' H' → RS G Z φ' st H' → RepEn G Z φ' H' σ' ρ → G.mg c = some (.ref A) → H' dx = some (.xd [("at", v)]) → Rep G Z φ' H' v d → W (.ref A) (some dx) σ' H'
  | .no => False
section
variable {G : Gb} {Z φ φ' : List Addr} {H H' : Hp} {r : SRes} {B B' : Ends} {W : WX}
theorem postS.ext (x : Ext φ H φ' H') (h : postS G Z φ H r B W) : postS G Z φ' H' r B W := by
  unfold postS at h ⊢
  split at h
  · exact fun φ2 H2 σ' y => h φ2 H2 σ' (x.trans y)
  · exact fun φ2 H2 σ' y => h φ2 H2 σ' (x.trans y)
  · exact fun φ2 H2 σ' y => h φ2 H2 σ' (x.trans y)
  · exact fun φ2 H2 v y => h φ2 H2 v (x.trans y)
  · exact fun φ2 H2 σ' A dx v y => h φ2 H2 σ' A dx v (x.trans y)
  · exact h
/-- behind an expression -/
def eb {α : Type} (r : Res α) (ρ : En) (f : α → Sto → SRes) : SRes := match r with
  | .ok a st => f a st
  | .er c d st => .er c d ρ st
  | .no => .no
@[simp] theorem eb_ok {α : Type} (a : α) (s : Sto) (ρ : En) (f : α → Sto → SRes) : eb (.ok a s) ρ f = f a s := rfl
@[simp] theorem eb_er {α : Type} (c : Str) (d : D) (s : Sto) (ρ : En) (f : α → Sto → SRes) : eb (.er c d s) ρ f = .er c d ρ s := rfl
@[simp] theorem eb_no {α : Type} (ρ : En) (f : α → Sto → SRes) : eb .no ρ f = .no := rfl
theorem postS.bnd {α : Type} {r : Res α} {ρ : En} {σ : L2.St} {f : α → Sto → SRes} (re : RepEn G Z φ H σ ρ) (h : postS G Z φ H (eb r ρ f) B W) : post G Z φ H r (fun φ1 H1 a st => postS G Z φ1 H1 (f a st) B W) (fun c d H' => W c d σ H') := by
  cases r with
  | ok a st => exact fun φ1 H1 x _ => postS.ext x h
  | er c d st => exact fun φ1 H1 A dx v x rs1 g1 g2 g3 => h φ1 H1 σ A dx v x rs1 (re.ext x) g1 g2 g3
  | no => exact h
end
structure CokS (G : Gb) (k : Nat) (Γ : Sc) (X : Cx) (W : WX) : Prop extends Cok G k Γ X W where
  po : PassesOwn (model X.prog X.w) X.A X.env X.xe
  hs : X.stack = X.env :: X.outer
  hf : X.env.frame = some X.env.locals
def wpS (X : Cx) (s : Stmt) : TS := fun D σ H => ∀ pins s', Inv X pins σ H s' → wpAny (model X.prog X.w) X.A (exec s X.env) (SP X pins D) X.xe s'
def wpSs (X : Cx) (s : List Stmt) : TS := fun D σ H => ∀ pins s', Inv X pins σ H s' → wpAny (model X.prog X.w) X.A (execs s X.env) (SP X pins D) X.xe s'
theorem ps_wp {X : Cx} {s : Stmt} : PS X s (wpS X s) := ⟨fun pins s' _ _ _ I h => h pins s' I⟩
theorem pss_wp {X : Cx} {s : List Stmt} : PSs X s (wpSs X s) := ⟨fun pins s' _ _ _ I h => h pins s' I⟩
theorem wp_ps {X : Cx} {s : Stmt} {t : TS} (p : PS X s t) {D : Ends} {σ : L2.St} {H : Hp} (h : t D σ H) : wpS X s D σ H := fun pins s' I => p.run pins s' σ H D I h
theorem wp_pss {X : Cx} {s : List Stmt} {t : TS} (p : PSs X s t) {D : Ends} {σ : L2.St} {H : Hp} (h : t D σ H) : wpSs X s D σ H := fun pins s' I => p.run pins s' σ H D I h
section
variable (G : Gb) (k : Nat) (Γ : Sc)
def SimS (s : Stmt) (ms : MS) : Prop := ∀ X W, CokS G k Γ X W → ∀ Z φ ρ st σ H D, RS G Z φ st H → RepEn G Z φ H σ ρ → postS G Z φ H (ms ρ st) D W → wpS X s D σ H
def SimSs (s : List Stmt) (ms : MS) : Prop := ∀ X W, CokS G k Γ X W → ∀ Z φ ρ st σ H D, RS G Z φ st H → RepEn G Z φ H σ ρ → postS G Z φ H (ms ρ st) D W → wpSs X s D σ H
end
section
variable {G : Gb} {k : Nat} {Γ : Sc} {e a b c o : Expr} {es : List Expr} {pos p apos cpos : Pos} {m ma mb mc : M D} {mt mu : M Bool} {ml : M (List D)} {s : Stmt} {ss rest body : List Stmt} {ms ns us : MS}
def sNx : MS := fun ρ st => .nx ρ st
def sSeq (ms ns : MS) : MS := fun ρ st => match ms ρ st with
  | .nx ρ st => ns ρ st
  | r => r
theorem sims_nil : SimSs G k Γ [] sNx := fun X W C Z φ ρ st σ H D rs re po => wp_pss pss_nil (po φ H σ (Ext.refl _ _) rs re)
theorem sims_cons (h : SimS G k Γ s ms) (h' : SimSs G k Γ rest ns) : SimSs G k Γ (s :: rest) (sSeq ms ns) := fun X W C Z φ ρ st σ H D rs re po =>
  wp_pss (pss_cons ps_wp pss_wp) (h X W C Z φ ρ st σ H _ rs re (by
    unfold sSeq at po
    split at po
    · rename_i ρ1 st1 e1
      rw [e1]
      exact fun φ1 H1 σ1 x1 rs1 re1 => h' X W C Z φ1 ρ1 st1 σ1 H1 D rs1 re1 (po.ext x1)
    · rename_i r n1
      cases e1 : ms ρ st with
      | nx ρ1 st1 => exact absurd e1 (n1 _ _)
      | rt d st1 => rw [e1] at po; exact po
      | bk ρ1 st1 => rw [e1] at po; exact po
      | ct ρ1 st1 => rw [e1] at po; exact po
      | er c d ρ1 st1 => rw [e1] at po; exact po
      | no => rw [e1] at po; exact po))
theorem sims_one (h : SimS G k Γ s ms) : SimSs G k Γ [s] ms := fun X W C Z φ ρ st σ H D rs re po => wp_pss (pss_one ps_wp) (h X W C Z φ ρ st σ H D rs re po)
theorem sim_pass : SimS G k Γ (.Pass pos) sNx := fun X W C Z φ ρ st σ H D rs re po => wp_ps ps_pass (po φ H σ (Ext.refl _ _) rs re)
def sBk : MS := fun ρ st => .bk ρ st
def sCt : MS := fun ρ st => .ct ρ st
theorem sim_break : SimS G k Γ (.Break pos) sBk := fun X W C Z φ ρ st σ H D rs re po => wp_ps ps_break (po φ H σ (Ext.refl _ _) rs re)
theorem sim_continue : SimS G k Γ (.Continue pos) sCt := fun X W C Z φ ρ st σ H D rs re po => wp_ps ps_continue (po φ H σ (Ext.refl _ _) rs re)
def sEx (m : M D) : MS := fun ρ st => eb (m ρ st) ρ fun _ st => .nx ρ st
theorem sim_expr (h : SimE G k Γ e m) (hs : ∀ env : Env, swapsWith e none pos.line env = pure false := by intro _; rfl) : SimS G k Γ (.Expr e pos) (sEx m) := fun X W C Z φ ρ st σ H D rs re po =>
  wp_ps (ps_expr pe_wp (hs X.env)) (h X W C.toCok Z φ ρ st σ H _ rs re (post.mono (postS.bnd re po) fun φ1 H1 d st1 x1 rs1 p1 v rv => p1 φ1 H1 σ (Ext.refl _ _) rs1 (re.ext x1)))
def sRt (m : M D) : MS := fun ρ st => eb (m ρ st) ρ fun d st => .rt d st
def sRtN : MS := fun _ st => .rt .non st
theorem sim_ret (h : SimE G k Γ e m) : SimS G k Γ (.Return (some e) pos) (sRt m) := fun X W C Z φ ρ st σ H D rs re po =>
  wp_ps (ps_ret pe_wp) (h X W C.toCok Z φ ρ st σ H _ rs re (post.mono (postS.bnd re po) fun φ1 H1 d st1 x1 rs1 p1 v rv => p1 φ1 H1 v (Ext.refl _ _) rs1 rv))
theorem sim_retN : SimS G k Γ (.Return none pos) sRtN := fun X W C Z φ ρ st σ H D rs re po => wp_ps ps_retN (po φ H .non (Ext.refl _ _) rs .non)
def sIf (t : M Bool) (ms ns : MS) : MS := fun ρ st => eb (t ρ st) ρ fun b st => if b = true then ms ρ st else ns ρ st
theorem sim_ifS (ht : SimT G k Γ c mt) (h1 : SimSs G k Γ ss ms) (h2 : SimSs G k Γ rest ns) : SimS G k Γ (.If c ss rest pos) (sIf mt ms ns) := fun X W C Z φ ρ st σ H D rs re po =>
  wp_ps (ps_if pt_wp pss_wp pss_wp) (ht X W C.toCok Z φ ρ st σ H _ rs re (post.mono (postS.bnd re po) fun φ1 H1 b st1 x1 rs1 p1 => by
    cases b with
    | true => exact h1 X W C Z φ1 ρ st1 σ H1 D rs1 (re.ext x1) p1
    | false => exact h2 X W C Z φ1 ρ st1 σ H1 D rs1 (re.ext x1) p1))

/-! ### targets -/
abbrev MT := D → En → Sto → Option (En × Sto)
def wpG (X : Cx) (tg : Expr) : TG := fun v σ H Q => ∀ pins s u, Inv X pins σ H s → RelV v u → wpAny (model X.prog X.w) X.A (assign tg X.env u) (fun _ s' => ∃ σ' H', Inv X pins σ' H' s' ∧ Q σ' H') X.xe s
def wpGs (X : Cx) (ts : List Expr) : TGs := fun vs σ H Q => ∀ pins s us, Inv X pins σ H s → Vals vs us → wpAny (model X.prog X.w) X.A (assignInOrder ((assignEach ts X.env).map (·.2)) us) (fun _ s' => ∃ σ' H', Inv X pins σ' H' s' ∧ Q σ' H') X.xe s
theorem pg_wp {X : Cx} {tg : Expr} : PG X tg (wpG X tg) := ⟨fun pins s σ H v u Q I r h => h pins s u I r⟩
theorem pgs_wp {X : Cx} {ts : List Expr} : PGs X ts (wpGs X ts) := ⟨fun pins s σ H vs us Q I r h => h pins s us I r⟩
theorem wp_pg {X : Cx} {tg : Expr} {t : TG} (p : PG X tg t) {v : V} {σ : L2.St} {H : Hp} {Q : L2.St → Hp → Prop} (h : t v σ H Q) : wpG X tg v σ H Q := fun pins s u I r => p.run pins s σ H v u Q I r h
theorem wp_pgs {X : Cx} {ts : List Expr} {t : TGs} (p : PGs X ts t) {vs : List V} {σ : L2.St} {H : Hp} {Q : L2.St → Hp → Prop} (h : t vs σ H Q) : wpGs X ts vs σ H Q := fun pins s us I r => p.run pins s σ H vs us Q I r h
/-- alike but at these slots -/
def Agr (vs : List Nat) (σ σ' : L2.St) : Prop := σ'.length = σ.length ∧ ∀ i, i ∉ vs → σ'[i]? = σ[i]?
theorem Agr.refl (vs : List Nat) (σ : L2.St) : Agr vs σ σ := ⟨rfl, fun _ _ => rfl⟩
theorem Agr.trans {vs us : List Nat} {σ σ1 σ2 : L2.St} (a : Agr vs σ σ1) (b : Agr us σ1 σ2) : Agr (vs ++ us) σ σ2 :=
  ⟨b.1.trans a.1, fun i h => (b.2 i fun z => h (List.mem_append_right _ z)).trans (a.2 i fun z => h (List.mem_append_left _ z))⟩
def postG (G : Gb) (Z φ : List Addr) (H : Hp) (σ : L2.St) (vs : List Nat) (r : Option (En × Sto)) (Q : L2.St → Hp → Prop) : Prop := match r with
  | some (ρ, st) => ∀ φ' H' σ', Ext φ H φ' H' → RS G Z φ' st H' → RepEn G Z φ' H' σ' ρ → Agr vs σ σ' → Q σ' H'
  | none => False
def SimG (G : Gb) (k : Nat) (Γ : Sc) (tg : Expr) (ws : List Nat) (mt : MT) : Prop := ∀ X W, Cok G k Γ X W → ∀ Z φ ρ st σ H v d Q, RS G Z φ st H → RepEn G Z φ H σ ρ → Rep G Z φ H v d → postG G Z φ H σ ws (mt d ρ st) Q → wpG X tg v σ H Q
def SimGs (G : Gb) (k : Nat) (Γ : Sc) (ts : List Expr) (ws : List Nat) (mt : List D → En → Sto → Option (En × Sto)) : Prop := ∀ X W, Cok G k Γ X W → ∀ Z φ ρ st σ H vs ds Q, RS G Z φ st H → RepEn G Z φ H σ ρ → Reps G Z φ H vs ds → postG G Z φ H σ ws (mt ds ρ st) Q → wpGs X ts vs σ H Q
theorem RepEn.set {Z φ : List Addr} {H : Hp} {σ : L2.St} {ρ : En} {v : V} {d : D} (re : RepEn G Z φ H σ ρ) (r : Rep G Z φ H v d) (i : Nat) : RepEn G Z φ H (σ.set i (some v)) (ρ.set i (some d)) := by
  refine ⟨by rw [List.length_set, List.length_set]; exact re.1, fun j d' h => ?_⟩
  by_cases hij : i = j
  · subst hij
    have hl : i < ρ.length := by
      obtain ⟨z, _⟩ := List.getElem?_eq_some_iff.mp h
      simpa using z
    rw [List.getElem?_set_self hl] at h
    cases h
    exact ⟨v, List.getElem?_set_self (by rw [re.1]; exact hl), r⟩
  · rw [List.getElem?_set_ne hij] at h ⊢
    exact re.2 j d' h
def tName (i : Nat) : MT := fun d ρ st => some (ρ.set i (some d), st)
def LocG (Γ : Sc) (x : Str) : Prop := Loc Γ.sc x
theorem simg_name (i : Nat) {x : Str} (hi : Γ.N[i]? = some x := by rfl) (hx : Loc Γ.sc x := by first | exact Or.inl rfl | exact Or.inr rfl) (hf : Γ.fn x = true ∨ Γ.sc.names.lookup x = some .local := by first | exact .inl rfl | exact .inr rfl) : SimG G k Γ (.Name x p) [i] (tName i) := fun X W C Z φ ρ st σ H v d Q rs re rv po =>
  wp_pg (pg_name (i := i) (by rw [C.N]; exact C.nd) (by rw [C.N]; exact hi) (by rw [C.sc]; exact hx) (by rw [C.sc, C.fn]; exact hf)) (po φ H _ (Ext.refl _ _) rs (re.set rv i) ⟨List.length_set, fun j hj => List.getElem?_set_ne fun e => hj (by rw [e]; exact List.mem_singleton_self _)⟩)
def tNil : List D → En → Sto → Option (En × Sto) := fun ds ρ st => match ds with
  | [] => some (ρ, st)
  | _ => none
def tCons (t : MT) (ts : List D → En → Sto → Option (En × Sto)) : List D → En → Sto → Option (En × Sto) := fun ds ρ st => match ds with
  | d :: ds => (t d ρ st).bind fun x => ts ds x.1 x.2
  | [] => none
theorem postG.bnd {Z φ : List Addr} {H : Hp} {σ : L2.St} {ws us : List Nat} {r : Option (En × Sto)} {f : En × Sto → Option (En × Sto)} {Q : L2.St → Hp → Prop} (h : postG G Z φ H σ (ws ++ us) (r.bind f) Q) :
    postG G Z φ H σ ws r (fun σ1 H1 => ∃ ρ1 st1 φ1, r = some (ρ1, st1) ∧ Ext φ H φ1 H1 ∧ RS G Z φ1 st1 H1 ∧ RepEn G Z φ1 H1 σ1 ρ1 ∧ postG G Z φ1 H1 σ1 us (f (ρ1, st1)) Q) := by
  cases r with
  | none => exact h.elim
  | some x =>
    obtain ⟨ρ, st⟩ := x
    have h' : postG G Z φ H σ (ws ++ us) (f (ρ, st)) Q := h
    intro φ1 H1 σ1 x1 rs1 re1 ag
    refine ⟨ρ, st, φ1, rfl, x1, rs1, re1, ?_⟩
    unfold postG at h' ⊢
    split at h'
    · exact fun φ2 H2 σ2 y rs2 re2 ag2 => h' φ2 H2 σ2 (x1.trans y) rs2 re2 (ag.trans ag2)
    · exact h'
theorem simgs_nil : SimGs G k Γ [] [] tNil := fun X W C Z φ ρ st σ H vs ds Q rs re rv po => by
  refine wp_pgs pgs_nil ?_
  cases rv with
  | nil => exact ⟨rfl, po φ H σ (Ext.refl _ _) rs re (Agr.refl _ _)⟩
  | cons r t => exact po.elim
theorem simgs_cons {ws us : List Nat} {t : MT} {ts : List D → En → Sto → Option (En × Sto)} (h : SimG G k Γ e ws t) (h' : SimGs G k Γ es us ts) (hs : ∀ env : Env, (assignEach (e :: es) env).map (·.2) = assign e env :: (assignEach es env).map (·.2) := by intro _; rfl) : SimGs G k Γ (e :: es) (ws ++ us) (tCons t ts) := fun X W C Z φ ρ st σ H vs ds Q rs re rv po => by
  refine wp_pgs (pgs_cons pg_wp pgs_wp (hs X.env)) ?_
  cases rv with
  | nil => exact po.elim
  | @cons v vs d ds r t' =>
    refine ⟨v, vs, rfl, h X W C Z φ ρ st σ H v d _ rs re r ?_⟩
    have p := postG.bnd po
    unfold postG at p ⊢
    split at p
    · intro φ1 H1 σ1 x1 rs1 re1 ag
      obtain ⟨ρ2, st2, φ2, e2, x2, rs2, re2, p2⟩ := p φ1 H1 σ1 x1 rs1 re1 ag
      exact h' X W C Z φ2 ρ2 st2 σ1 H1 vs ds Q rs2 re2 (t'.ext x2) p2
    · exact p
def tTup (n : Nat) (ts : List D → En → Sto → Option (En × Sto)) : MT := fun d ρ st => match d with
  | .tup ds => if ds.length = n then ts ds ρ st else none
  | _ => none
theorem simg_tup {n i : Nat} {ws : List Nat} {ts : List D → En → Sto → Option (En × Sto)} (h : SimGs G k Γ es ws ts) (hn : ∀ env : Env, (assignEach es env).length = n := by intro _; rfl) (hst : ∀ env : Env, (assignEach es env).findIdx? (·.1) = none := by intro _; rfl) : SimG G k Γ (.Tuple es i pos) ws (tTup n ts) :=
  fun X W C Z φ ρ st σ H v d Q rs re rv po => by
  refine wp_pg (pg_tup C.calm pgs_wp (hn X.env) (hst X.env)) ?_
  cases rv with
  | tup h1 r =>
    rename_i a vs ds
    unfold tTup at po
    dsimp only at po
    split at po
    · rename_i hl
      exact ⟨a, vs, rfl, by rw [C.K]; exact h1.sq, by rw [r.length]; exact hl, h X W C Z φ ρ st σ H vs ds Q rs re r po⟩
    · exact po.elim
  | _ => exact po.elim
def sAs (t : MT) (m : M D) : MS := fun ρ st => eb (m ρ st) ρ fun d st => match t d ρ st with
  | some (ρ, st) => .nx ρ st
  | none => .no
theorem postS.tgt {Z φ : List Addr} {H : Hp} {σ : L2.St} {ws : List Nat} (r : Option (En × Sto)) {B : Ends} {W : WX} (h : postS G Z φ H (match r with | some (ρ, st) => SRes.nx ρ st | none => .no) B W) : postG G Z φ H σ ws r B.nx := by
  cases r with
  | none => exact h
  | some x => exact fun φ' H' σ' x rs re _ => h φ' H' σ' x rs re
theorem sim_asg {t : MT} {ws : List Nat} (h : SimE G k Γ e m) (hg : SimG G k Γ a ws t) (hs : ∀ env : Env, env.scope = Γ.sc → swapsWithSole [a] e pos.line env = pure false := by (intro env h; cases env; cases h; rfl)) (hw : ∀ env : Env, env.scope = Γ.sc → swappedStores [a] e env = pure none := by (intro env h; cases env; cases h; rfl))
    (h1 : ∀ env : Env, (assignEach [a] env).map (·.2) = [assign a env] := by intro _; rfl) : SimS G k Γ (.Assign [a] e pos) (sAs t m) := fun X W C Z φ ρ st σ H D rs re po =>
  wp_ps (ps_asg pe_wp pg_wp (hs X.env C.sc) (hw X.env C.sc) (h1 X.env)) (h X W C.toCok Z φ ρ st σ H _ rs re (post.mono (postS.bnd re po) fun φ1 H1 d st1 x1 rs1 p1 v rv =>
    hg X W C.toCok Z φ1 ρ st1 σ H1 v d _ rs1 (re.ext x1) rv (postS.tgt (t d ρ st1) p1)))
/-- name = e -/
theorem sim_set (i : Nat) {x : Str} (h : SimE G k Γ e m) (hs : ∀ env : Env, env.scope = Γ.sc → swapsWith e (some (.Name x p)) pos.line env = pure false := by (intro env h; cases env; cases h; rfl)) (hi : Γ.N[i]? = some x := by rfl)
    (hx : Loc Γ.sc x := by first | exact Or.inl rfl | exact Or.inr rfl) (hf : Γ.fn x = true ∨ Γ.sc.names.lookup x = some .local := by first | exact .inl rfl | exact .inr rfl) : SimS G k Γ (.Assign [.Name x p] e pos) (sAs (tName i) m) := fun X W C Z φ ρ st σ H D rs re po =>
  wp_ps (ps_set (i := i) (by rw [C.N]; exact C.nd) (by rw [C.N]; exact hi) (by rw [C.sc]; exact hx) pe_wp (hs X.env C.sc) (by rw [C.sc, C.fn]; exact hf)) (h X W C.toCok Z φ ρ st σ H _ rs re (post.mono (postS.bnd re po) fun φ1 H1 d st1 x1 rs1 p1 v rv =>
    postS.tgt (σ := σ) (ws := [i]) (tName i d ρ st1) p1 φ1 H1 _ (Ext.refl _ _) rs1 ((re.ext x1).set rv i) ⟨List.length_set, fun j hj => List.getElem?_set_ne fun e => hj (by rw [e]; exact List.mem_singleton_self _)⟩))
end
end Kp

/-! # Kp, 5: what is walked; for, while; comprehensions -/
namespace Kp
open PySem PySem.Spec L2
open PyProof.Rows hiding St

theorem Mv.trans {Z Z1 Z2 φ φ1 φ2 : List Addr} {H H1 H2 : Hp} (a : Mv Z φ H Z1 φ1 H1) (b : Mv Z1 φ1 H1 Z2 φ2 H2) : Mv Z φ H Z2 φ2 H2 :=
  ⟨fun x vs h n => let q := a.tup x vs h n; b.tup x vs q.1 q.2, fun x o vs h n => let q := a.fls x o vs h n; b.fls x o vs q.1 q.2, fun x vs h n z => let q := a.lst x vs h n z; b.lst x vs q.1 q.2.1 q.2.2,
    fun x A dx fs h n z => let q := a.ins x A dx fs h n z; b.ins x A dx fs q.1 q.2.1 q.2.2, fun n x h => b.ref n x (a.ref n x h)⟩
/-- J walks the data ds, and goes on doing so while cells alone change -/
def Wk (G : Gb) (Z φ : List Addr) (H : Hp) (J : It) (ds : List D) : Prop := ∀ Z' φ' st' H', Ext φ H φ' H' → Mv Z φ H Z' φ' H' → RS G Z' φ' st' H' → ∀ i : Nat, (ds.length ≤ i → J.stop i H') ∧
  ∀ d, ds[i]? = some d → J.go i H' ∧ ∀ x H'', J.yld i H' x H'' → Ext φ' H' φ' H'' ∧ RS G Z' φ' st' H'' ∧ Rep G Z' φ' H'' x d
def wpI (X : Cx) (tg it : Expr) : TI := fun σ H R => ∀ pins s, Inv X pins σ H s → wpAny (model X.prog X.w) X.A (eval it X.env) (fun v s1 => wpAny (model X.prog X.w) X.A (pyIter v) (PIE X pins σ tg R) X.xe s1) X.xe s
theorem pi_wp {X : Cx} {tg it : Expr} : PI X tg it (wpI X tg it) := ⟨fun pins s σ H R I h => h pins s I⟩
theorem wp_pi {X : Cx} {tg it : Expr} {t : TI} (p : PI X tg it t) {σ : L2.St} {H : Hp} {R : It → Hp → Prop} (h : t σ H R) : wpI X tg it σ H R := fun pins s I => p.run pins s σ H R I h
def SimI (G : Gb) (k : Nat) (Γ : Sc) (tg it : Expr) (m : M (List D)) : Prop := ∀ X W, Cok G k Γ X W → ∀ Z φ ρ st σ H R, RS G Z φ st H → RepEn G Z φ H σ ρ →
  post G Z φ H (m ρ st) (fun φ' H' ds _ => ∀ J, Wk G Z φ' H' J ds → R J H') (fun c d H' => W c d σ H') → wpI X tg it σ H R

section
variable {G : Gb} {k : Nat} {Γ : Sc} {e a b c o tg it : Expr} {es : List Expr} {pos p apos cpos : Pos} {m ma mb mc : M D} {mt mu : M Bool} {ml : M (List D)} {s : Stmt} {ss rest body : List Stmt} {ms ns us : MS}
/-! ### sequences -/
def seqD : D → Sto → Res (List D) := fun d st => match d with
  | .tup ds => .ok ds st
  | .lst ds => .ok ds st
  | .fls ds => .ok ds st
  | .ref n => match st[n]? with
    | some (.lk (.lst ds)) => .ok ds st
    | _ => .no
  | _ => .no
def mSeq (m : M D) : M (List D) := fun ρ st => (m ρ st).bind seqD
theorem wk_list {Z φ : List Addr} {H : Hp} {q : Addr} {vs : List V} {ds : List D} (h : ∀ φ' H', Ext φ H φ' H' → SqL G.K H' q vs) (r : Reps G Z φ H vs ds) : Wk G Z φ H (Itl G.K q) ds :=
  fun Z' φ' st' H' x m rs i => by
    have r' := r.mv m
    refine ⟨fun hi => ⟨vs, h φ' H' x, by rw [r.length]; exact hi⟩, fun d hd => ?_⟩
    obtain ⟨v, hv, rv⟩ := r'.get hd
    refine ⟨⟨vs, v, h φ' H' x, hv⟩, fun y H'' hy => ?_⟩
    obtain ⟨rfl, hy⟩ := hy
    have e1 := hy vs (h φ' _ x)
    rw [hv] at e1
    cases e1
    exact ⟨Ext.refl _ _, rs, rv⟩
theorem wk_tup {Z φ : List Addr} {H : Hp} {q : Addr} {vs : List V} {ds : List D} (h : Ft G.K φ H q vs) (r : Reps G Z φ H vs ds) : Wk G Z φ H (Itt G.K q) ds :=
  fun Z' φ' st' H' x m rs i => by
    have r' := r.mv m
    have h' := (h.ext x).sq
    refine ⟨fun hi => ⟨vs, h', by rw [r.length]; exact hi⟩, fun d hd => ?_⟩
    obtain ⟨v, hv, rv⟩ := r'.get hd
    refine ⟨⟨vs, v, h', hv⟩, fun y H'' hy => ?_⟩
    obtain ⟨rfl, hy⟩ := hy
    have e1 := hy vs h'
    rw [hv] at e1
    cases e1
    exact ⟨Ext.refl _ _, rs, rv⟩
/-- a list or a tuple, walked -/
def iSq (K : PySem.W.Frag) (tl : TE) : TI := fun σ H R => tl σ H fun x H1 => ∃ a, x = .ref a ∧ ((∃ xs, SqL K H1 a xs ∧ R (Itl K a) H1) ∨ (∃ xs, SqT K H1 a xs ∧ R (Itt K a) H1))
theorem pi_sq {X : Cx} {l : Expr} {tl : TE} (hl : PE X l tl) : PI X tg l (iSq X.K tl) := by
  refine ⟨fun pins s σ H R I h => ?_⟩
  refine thn (hl.run pins s σ H _ I h) fun v s1 ⟨x, H1, I1, r1, q1⟩ => ?_
  obtain ⟨a, e, q1⟩ := q1
  subst e
  cases r1
  have fp : ∀ b ∈ [s1.heap.objs.size], FpOk X pins H1 b := fun b hb => by
    have e : b = s1.heap.objs.size := by simpa using hb
    rw [e]
    exact I1.fpOk (Nat.le_refl _) (I1.hok.fresh (Nat.le_refl _))
  rcases q1 with ⟨xs, hq, q⟩ | ⟨xs, hq, q⟩
  · obtain ⟨its, rv, p, hz⟩ := I1.list hq
    refine PySem.wpAny_pyIter_list p.isList ⟨s1.heap.objs.size, [s1.heap.objs.size], ?_⟩
    exact ⟨_, _, H1, rfl, I1.kept (t' := s1.toks) (fun b o e => Heap.get?_push_of_some _ e), turn_list a _, ⟨_, Heap.get?_push_size _ rfl, rfl, rfl⟩, fp, q⟩
  · obtain ⟨its, rv, p, hz⟩ := I1.tuple hq
    refine wpAny_pyIter_tuple (show s1.heap.IsTuple a its.toArray from p) ⟨s1.heap.objs.size, [s1.heap.objs.size], ?_⟩
    exact ⟨_, _, H1, rfl, I1.kept (t' := s1.toks) (fun b o e => Heap.get?_push_of_some _ e), turn_tuple a _, ⟨_, Heap.get?_push_size _ rfl, rfl, rfl⟩, fp, q⟩
theorem seqD_lk {Z φ : List Addr} {H : Hp} {st : Sto} {q : Addr} {n : Nat} {Q : List Addr → Hp → List D → Sto → Prop} {W : XK} (rs : RS G Z φ st H) (hq : φ[n]? = some q) (p : post G Z φ H (seqD (.ref n) st) Q W) :
    ∃ ds o vs, seqD (.ref n) st = .ok ds st ∧ H q = some (.frz o (.lst vs)) ∧ Reps G Z φ H vs ds := by
  unfold seqD at p ⊢
  dsimp only at p ⊢
  split at p
  · rename_i ds e1
    obtain ⟨o, u, e2, r2⟩ := rs.cells n _ q e1 hq
    cases u with
    | lst vs => exact ⟨ds, o, vs, rfl, e2, r2⟩
    | _ => exact r2.elim
  · exact p.elim
theorem simi_seq (h : SimE G k Γ it m) : SimI G k Γ tg it (mSeq m) := fun X W C Z φ ρ st σ H R rs re po =>
  wp_pi (pi_sq pe_wp) (h X W C Z φ ρ st σ H _ rs re (post.mono (post.bnd po) fun φ1 H1 d st1 x1 rs1 p1 v rv => by
    rw [C.K]
    cases rv with
    | tup h1 r => exact ⟨_, rfl, .inr ⟨_, h1.sq, p1.ok rs1 _ (wk_tup h1 r)⟩⟩
    | lst h1 n z r => exact ⟨_, rfl, .inl ⟨_, .inl (.inl h1), p1.ok rs1 _ (wk_list (fun φ' H' x => .inl (.inl (x.keep _ _ h1 n).1)) r)⟩⟩
    | fls h1 r => exact ⟨_, rfl, .inl ⟨_, h1.sq, p1.ok rs1 _ (wk_list (fun φ' H' x => (h1.ext x).sq) r)⟩⟩
    | @ref q n hq =>
      obtain ⟨ds, o, vs, e1, e2, r⟩ := seqD_lk rs1 hq p1
      rw [e1] at p1
      exact ⟨_, rfl, .inl ⟨_, .inl (.inr ⟨o, e2⟩), p1.ok rs1 _ (wk_list (fun φ' H' x => .inl (.inr ⟨o, x.frz _ _ _ e2⟩)) r)⟩⟩
    | _ => exact (show False from p1).elim))
/-! ### ranges -/
def rngD (lo : Int) (n : Nat) : List D := (List.range n).map fun i => .int (lo + (i : Nat))
theorem rngD_len (lo : Int) (n : Nat) : (rngD lo n).length = n := by simp [rngD]
theorem wk_rng {Z φ : List Addr} {H : Hp} {lo : Int} {n : Nat} : Wk G Z φ H (Itr lo n) (rngD lo n) := fun Z' φ' st' H' x m rs i => by
  refine ⟨fun hi => by rw [rngD_len] at hi; exact hi, fun d hd => ?_⟩
  unfold rngD at hd
  rw [List.getElem?_map] at hd
  have hl : i < n := by
    cases q : (List.range n)[i]? with
    | none => rw [q] at hd; cases hd
    | some j => have := (List.getElem?_eq_some_iff.mp q).1; simpa using this
  rw [List.getElem?_range hl] at hd
  cases hd
  refine ⟨hl, fun y H'' hy => ?_⟩
  obtain ⟨rfl, rfl⟩ := hy
  exact ⟨Ext.refl _ _, rs, .int _⟩
def rngLine : Int := 2 ^ 62
def rng1 : List D → Sto → Res (List D) := fun ds st => match ds with
  | [.int j] => if -(2 ^ 62) ≤ j ∧ j < 2 ^ 62 then .ok (rngD 0 j.toNat) st else .no
  | _ => .no
def rng2 : List D → Sto → Res (List D) := fun ds st => match ds with
  | [.int i, .int j] => if -(2 ^ 62) ≤ i ∧ i < 2 ^ 62 ∧ -(2 ^ 62) ≤ j ∧ j < 2 ^ 62 then .ok (rngD i (j - i).toNat) st else .no
  | _ => .no
def mRng (f : List D → Sto → Res (List D)) (r : M (List D)) : M (List D) := fun ρ st => (r ρ st).bind f
theorem simi_rng1 (h : SimA G k Γ [a] ml) (hm : G.mg "range" = none) (hg : GlG Γ "range" := by rfl) (hs : ∀ env : Env, starEach [a] env = [(false, eval a env)] := by intro _; rfl) : SimI G k Γ tg (.Call (.Name "range" p) [a] [] pos) (mRng rng1 ml) := fun X W C Z φ ρ st σ H R rs re po =>
  wp_pi (pi_range1 (C.gl hg) (by rw [C.mg]; exact hm) pa_wp (hs X.env)) (h X W C Z φ ρ st σ H _ rs re (post.mono (post.bnd po) fun φ1 H1 ds st1 x1 rs1 p1 vs rvs => by
    unfold rng1 at p1
    split at p1
    · rename_i j
      cases rvs with
      | cons r t =>
        cases t
        cases r
        split at p1
        · rename_i hj
          exact ⟨j, rfl, hj.1, hj.2, p1.ok rs1 _ wk_rng⟩
        · exact p1.elim
    · exact p1.elim))
theorem simi_rng2 (h : SimA G k Γ [a, b] ml) (hm : G.mg "range" = none) (hg : GlG Γ "range" := by rfl) (hs : ∀ env : Env, starEach [a, b] env = [(false, eval a env), (false, eval b env)] := by intro _; rfl) (hs2 : ∀ env : Env, starEach [b] env = [(false, eval b env)] := by intro _; rfl) :
    SimI G k Γ tg (.Call (.Name "range" p) [a, b] [] pos) (mRng rng2 ml) := fun X W C Z φ ρ st σ H R rs re po =>
  wp_pi (pi_range2 (C.gl hg) (by rw [C.mg]; exact hm) pa_wp (hs X.env) (hs2 X.env)) (h X W C Z φ ρ st σ H _ rs re (post.mono (post.bnd po) fun φ1 H1 ds st1 x1 rs1 p1 vs rvs => by
    unfold rng2 at p1
    split at p1
    · rename_i i j
      cases rvs with
      | cons r t =>
        cases t with
        | cons r' t =>
          cases t
          cases r
          cases r'
          split at p1
          · rename_i hj
            exact ⟨i, j, rfl, hj, p1.ok rs1 _ wk_rng⟩
          · exact p1.elim
    · exact p1.elim))

/-! ### for -/
def forGo (t : MT) (body : MS) : List D → MS
  | [], ρ, st => .nx ρ st
  | d :: ds, ρ, st => match t d ρ st with
    | none => .no
    | some (ρ1, st1) => match body ρ1 st1 with
      | .nx ρ2 st2 => forGo t body ds ρ2 st2
      | .ct ρ2 st2 => forGo t body ds ρ2 st2
      | .bk ρ2 st2 => .nx ρ2 st2
      | .rt d st2 => .rt d st2
      | .er c d ρ2 st2 => .er c d ρ2 st2
      | .no => .no
def sFor (mi : M (List D)) (t : MT) (body : MS) : MS := fun ρ st => eb (mi ρ st) ρ fun ds st => forGo t body ds ρ st
/-- what the body is asked, from what the loop is asked -/
theorem for_turn {Z φ : List Addr} {H : Hp} {r : SRes} {f : MS} {B : Ends} {W : WX} {N : L2.St → Hp → Prop} (h : postS G Z φ H (match r with
      | .nx ρ2 st2 => f ρ2 st2
      | .ct ρ2 st2 => f ρ2 st2
      | .bk ρ2 st2 => .nx ρ2 st2
      | .rt d st2 => .rt d st2
      | .er c d ρ2 st2 => .er c d ρ2 st2
      | .no => .no) B W) (hN : ∀ φ' H' σ' ρ' st', Ext φ H φ' H' → RS G Z φ' st' H' → RepEn G Z φ' H' σ' ρ' → postS G Z φ' H' (f ρ' st') B W → N σ' H') : postS G Z φ H r { B with nx := N, ct := N, bk := B.nx } W := by
  cases r with
  | nx ρ2 st2 => exact fun φ' H' σ' x rs re => hN φ' H' σ' ρ2 st2 x rs re (h.ext x)
  | ct ρ2 st2 => exact fun φ' H' σ' x rs re => hN φ' H' σ' ρ2 st2 x rs re (h.ext x)
  | bk ρ2 st2 => exact h
  | rt d st2 => exact h
  | er c d ρ2 st2 => exact h
  | no => exact h
theorem sim_for {t : MT} {ws : List Nat} {mi : M (List D)} (hi : SimI G k Γ tg it mi) (hg : SimG G k Γ tg ws t) (hb : SimSs G k Γ body ms) (hf : ∀ (env : Env) x, foldedSetIterable it env x = pure x := by intro _ _; rfl) : SimS G k Γ (.For tg it body [] pos) (sFor mi t ms) := fun X W C Z φ ρ st σ H B rs re po =>
  wp_ps (ps_for C.po C.calm pi_wp pg_wp pss_wp (hf X.env)) (hi X W C.toCok Z φ ρ st σ H _ rs re (post.mono (postS.bnd re po) fun φ1 H1 ds st1 x1 rs1 p1 J wk => by
    refine ⟨fun i n σ' H' => n = ds.length - i ∧ ∃ φ' ρ' st', Ext φ1 H1 φ' H' ∧ RS G Z φ' st' H' ∧ RepEn G Z φ' H' σ' ρ' ∧ postS G Z φ' H' (forGo t ms (ds.drop i) ρ' st') B W, ⟨_, rfl, φ1, ρ, st1, Ext.refl _ _, rs1, re.ext x1, p1⟩, fun i n σ' H' hw => ?_⟩
    obtain ⟨rfl, φ', ρ', st', x', rs', re', p'⟩ := hw
    obtain ⟨w1, w2⟩ := wk Z φ' st' H' x' x'.mv rs' i
    by_cases hi : i < ds.length
    · have hd : ds[i]? = some ds[i] := List.getElem?_eq_getElem hi
      obtain ⟨g1, g2⟩ := w2 _ hd
      refine .inr ⟨g1, fun σ2 H2 => ∃ φ2 ρ2 st2, Ext φ1 H1 φ2 H2 ∧ RS G Z φ2 st2 H2 ∧ RepEn G Z φ2 H2 σ2 ρ2 ∧ postS G Z φ2 H2 (forGo t ms (ds.drop (i + 1)) ρ2 st2) B W, fun σ2 H2 h2 => ⟨_, by omega, rfl, h2⟩, fun x H2 hy => ?_⟩
      obtain ⟨x2, rs2, rx⟩ := g2 x H2 hy
      rw [List.drop_eq_getElem_cons hi] at p'
      unfold forGo at p'
      refine hg X W C.toCok Z φ' ρ' st' σ' H2 x _ _ rs2 (re'.ext x2) rx ?_
      have p2 := p'.ext x2
      split at p2
      · exact p2.elim
      · rename_i ρ3 st3 e3
        rw [e3]
        intro φ3 H3 σ3 x3 rs3 re3 _
        refine hb X W C Z φ3 ρ3 st3 σ3 H3 _ rs3 re3 (for_turn (f := forGo t ms (ds.drop (i + 1))) (p2.ext x3) fun φ4 H4 σ4 ρ4 st4 x4 rs4 re4 p4 => ?_)
        exact ⟨φ4, ρ4, st4, x'.trans (x2.trans (x3.trans x4)), rs4, re4, p4⟩
    · refine .inl ⟨w1 (by omega), ?_⟩
      rw [List.drop_eq_nil_of_le (by omega)] at p'
      exact p' φ' H' σ' (Ext.refl _ _) rs' re'))

/-! ### while: so many turns at most -/
def whileGo (c : M Bool) (body : MS) : Nat → MS
  | 0, _, _ => .no
  | n + 1, ρ, st => eb (c ρ st) ρ fun b st1 => if b = true then (match body ρ st1 with
      | .nx ρ2 st2 => whileGo c body n ρ2 st2
      | .ct ρ2 st2 => whileGo c body n ρ2 st2
      | .bk ρ2 st2 => .nx ρ2 st2
      | .rt d st2 => .rt d st2
      | .er c d ρ2 st2 => .er c d ρ2 st2
      | .no => .no) else .nx ρ st1
theorem sim_while {n : Nat} (ht : SimT G k Γ c mt) (hb : SimSs G k Γ body ms) : SimS G k Γ (.While c body [] pos) (whileGo mt ms n) := fun X W C Z φ ρ st σ H B rs re po =>
  wp_ps (ps_while C.po pt_wp pss_wp) (by
    refine ⟨fun n σ' H' => ∃ φ' ρ' st', RS G Z φ' st' H' ∧ RepEn G Z φ' H' σ' ρ' ∧ postS G Z φ' H' (whileGo mt ms n ρ' st') B W, ⟨n, φ, ρ, st, rs, re, po⟩, fun n σ' H' hw => ?_⟩
    obtain ⟨φ', ρ', st', rs', re', p'⟩ := hw
    cases n with
    | zero => exact p'.elim
    | succ n =>
      unfold whileGo at p'
      refine ht X W C.toCok Z φ' ρ' st' σ' H' _ rs' re' (post.mono (postS.bnd re' p') fun φ1 H1 b st1 x1 rs1 p1 => ?_)
      cases b with
      | false => exact p1 φ1 H1 σ' (Ext.refl _ _) rs1 (re'.ext x1)
      | true =>
        rw [if_pos rfl] at p1
        rw [if_pos rfl]
        refine ⟨fun σ2 H2 => ∃ φ2 ρ2 st2, RS G Z φ2 st2 H2 ∧ RepEn G Z φ2 H2 σ2 ρ2 ∧ postS G Z φ2 H2 (whileGo mt ms n ρ2 st2) B W, fun σ2 H2 h2 => ⟨n, Nat.lt_succ_self _, h2⟩, ?_⟩
        exact hb X W C Z φ1 ρ' st1 σ' H1 _ rs1 (re'.ext x1) (for_turn (f := whileGo mt ms n) p1 fun φ4 H4 σ4 ρ4 st4 x4 rs4 re4 p4 => ⟨φ4, ρ4, st4, rs4, re4, p4⟩))
end
end Kp

/-! # Kp, 6: list comprehensions -/
namespace Kp
open PySem PySem.Spec L2
open PyProof.Rows hiding St

/-- the slots of a block's own names forgotten -/
def wipeE (ρ : En) : List Nat → En
  | [] => ρ
  | v :: vs => (wipeE ρ vs).set v none
theorem wipeE_len (ρ : En) : ∀ vs : List Nat, (wipeE ρ vs).length = ρ.length
  | [] => rfl
  | v :: vs => by unfold wipeE; rw [List.length_set, wipeE_len ρ vs]
theorem wipeE_some {ρ : En} {i : Nat} {x : D} : ∀ {vs : List Nat}, (wipeE ρ vs)[i]? = some (some x) → ρ[i]? = some (some x) ∧ i ∉ vs
  | [], h => ⟨h, by simp⟩
  | v :: vs, h => by
    unfold wipeE at h
    by_cases hi : v = i
    · subst hi
      by_cases hv : v < (wipeE ρ vs).length
      · rw [List.getElem?_set_self hv] at h; cases h
      · rw [List.getElem?_eq_none (by simpa using hv)] at h; cases h
    · rw [List.getElem?_set_ne hi] at h
      obtain ⟨h1, h2⟩ := wipeE_some h
      exact ⟨h1, fun z => (List.mem_cons.mp z).elim (fun e => hi e.symm) h2⟩
theorem wipe_in {σ : L2.St} {i : Nat} : ∀ {vs : List Nat}, i ∈ vs → i < σ.length → (L2.wipe σ vs)[i]? = some none
  | v :: vs, h, hl => by
    unfold L2.wipe
    by_cases hi : v = i
    · subst hi
      exact List.getElem?_set_self (by rw [wipe_length]; exact hl)
    · rw [List.getElem?_set_ne hi]
      exact wipe_in ((List.mem_cons.mp h).resolve_left fun e => hi e.symm) hl
theorem Agr.wipe {σ σ' : L2.St} {ws vs : List Nat} (a : Agr ws (L2.wipe σ vs) σ') (h : ∀ i ∈ ws, i ∈ vs) : L2.wipe σ' vs = L2.wipe σ vs := by
  refine List.ext_getElem? fun i => ?_
  by_cases hi : i ∈ vs
  · by_cases hl : i < σ.length
    · rw [wipe_in hi hl, wipe_in hi (by rw [a.1, wipe_length]; exact hl)]
    · rw [List.getElem?_eq_none (by rw [wipe_length, a.1, wipe_length]; omega), List.getElem?_eq_none (by rw [wipe_length]; omega)]
  · rw [L2.wipe_out hi, a.2 i fun z => hi (h i z), L2.wipe_out hi]
section
variable {G : Gb} {Z φ : List Addr} {H : Hp} {σ : L2.St} {ρ : En}
theorem RepEn.wipe (re : RepEn G Z φ H σ ρ) (vs : List Nat) : RepEn G Z φ H (L2.wipe σ vs) (wipeE ρ vs) :=
  ⟨by rw [wipe_length, wipeE_len]; exact re.1, fun i d h => by
    obtain ⟨h1, h2⟩ := wipeE_some h
    obtain ⟨v, e, r⟩ := re.2 i d h1
    exact ⟨v, by rw [L2.wipe_out h2]; exact e, r⟩⟩
end

/-- within a block nothing is raised -/
def calmR {α : Type} (r : Res α) : Res α := match r with
  | .er _ _ _ => .no
  | r => r
theorem calmR_ok {α : Type} {r : Res α} {a : α} {st : Sto} (h : calmR r = .ok a st) : r = .ok a st := by
  cases r with
  | ok b s => exact h
  | er c d s => cases h
  | no => cases h
@[simp] theorem calm_ok {α : Type} (a : α) (st : Sto) : calmR (Res.ok a st) = .ok a st := rfl
theorem bind_is {α β : Type} {r : Res α} {f : α → Sto → Res β} {b : β} {st : Sto} (h : r.bind f = .ok b st) : ∃ a st1, r = .ok a st1 ∧ f a st1 = .ok b st := by
  cases r with
  | ok a st1 => exact ⟨a, st1, rfl, h⟩
  | er c d s => cases h
  | no => cases h
/-- the turns of a comprehension: n items stand in the new list already -/
def compGo (t : MT) (tt : M Bool) (me : M D) (vs : List Nat) (ρ : En) : List D → Nat → Sto → Res (List D)
  | [], _, st => .ok [] st
  | d :: ds, n, st => match t d (wipeE ρ vs) st with
    | none => .no
    | some (ρ1, st1) => (calmR (tt ρ1 st1)).bind fun b st2 => if b = true then (calmR (me ρ1 st2)).bind fun y st3 => if n < szMax then (compGo t tt me vs ρ ds (n + 1) st3).bind fun ys st4 => .ok (y :: ys) st4 else .no
      else compGo t tt me vs ρ ds n st2
theorem compGo_noer {t : MT} {tt : M Bool} {me : M D} {vs : List Nat} {ρ : En} : ∀ (ds : List D) (n : Nat) (st : Sto) c d st', compGo t tt me vs ρ ds n st ≠ .er c d st'
  | [], _, _, _, _, _ => fun h => by unfold compGo at h; cases h
  | d :: ds, n, st, c, d', st' => fun h => by
    unfold compGo at h
    split at h
    · cases h
    · rename_i ρ1 st1 e1
      cases q : calmR (tt ρ1 st1) with
      | er c2 d2 s2 => cases z : tt ρ1 st1 <;> (rw [z] at q; cases q)
      | no => rw [q] at h; cases h
      | ok b st2 =>
        rw [q, bind_ok] at h
        split at h
        · cases q2 : calmR (me ρ1 st2) with
          | er c2 d2 s2 => cases z : me ρ1 st2 <;> (rw [z] at q2; cases q2)
          | no => rw [q2] at h; cases h
          | ok y st3 =>
            rw [q2, bind_ok] at h
            split at h
            · cases q3 : compGo t tt me vs ρ ds (n + 1) st3 with
              | er c2 d2 s2 => exact compGo_noer ds (n + 1) st3 _ _ _ q3
              | no => rw [q3] at h; cases h
              | ok ys st4 => rw [q3] at h; cases h
            · cases h
        · exact compGo_noer ds n st2 _ _ _ h
def mComp (mi : M (List D)) (t : MT) (tt : M Bool) (me : M D) (vs : List Nat) : M (List D) := fun ρ st => (mi ρ st).bind fun ds st => compGo t tt me vs ρ ds 0 st
def mYes : M Bool := fun _ st => .ok true st

/-- a block's names -/
def Sc.blk (Γ : Sc) (scope : Scope) : Sc := ⟨Γ.N, relS scope Γ.sc, fun x => scope.names.lookup x == some .cell⟩
abbrev WF : WX := fun _ _ _ _ => False
theorem takes0N {X : Cx} : L2N.Takes X WF := fun _ _ x => by
  obtain ⟨_, _, _, _, _, _, _, _, _, _, _, _, _, _, _, _, z⟩ := x
  exact z.elim
theorem Cok.blk {G : Gb} {k : Nat} {Γ : Sc} {X : Cx} {W : WX} (C : Cok G k Γ X W) (scope : Scope) (s : Shared) (H : Hp) (Ca : Addr) (cl : List (Str × Addr)) (fp : List Addr) : Cok G k (Γ.blk scope) (X.blk s H scope (compEnvC scope cl Ca X.env) fp) WF where
  prog := C.prog
  w := C.w
  K := C.K
  mg := C.mg
  base := C.base
  N := C.N
  nd := C.nd
  sc := by
    show relS scope X.env.scope = relS scope Γ.sc
    rw [C.sc]
  fn := rfl
  calm := C.calm
  room := C.room
  tk := takes0N
/-- tests of a clause -/
def SimTs (G : Gb) (k : Nat) (Γ : Sc) (es : List Expr) (mt : M Bool) : Prop := ∀ X W, Cok G k Γ X W → ∀ Z φ ρ st σ H Q, RS G Z φ st H → RepEn G Z φ H σ ρ →
  post G Z φ H (mt ρ st) (fun _ H' b _ => Q b H') (fun c d H' => W c d σ H') → ∀ pins s, Inv X pins σ H s → wpAny (model X.prog X.w) X.A (forIn es true fun c r => if r = true then do let ok ← isTrue c X.env (eval c X.env); pure (ForInStep.yield ok) else pure (ForInStep.yield r)) (TP X pins σ Q) X.xe s
/-! the wishes of a block's target, tests, item, whatever the block's frame is -/
def bG (X : Cx) (scope : Scope) (tg : Expr) : TG := fun v σ H Q => ∀ s0 H0 Ca cl fp, wpG (X.blk s0 H0 scope (compEnvC scope cl Ca X.env) fp) tg v σ H Q
def bT (X : Cx) (scope : Scope) (ifs : List Expr) : TT := fun σ H Q => ∀ s0 H0 Ca cl fp pins s, Inv (X.blk s0 H0 scope (compEnvC scope cl Ca X.env) fp) pins σ H s → wpAny (model X.prog X.w) X.A (forIn ifs true fun c r => if r = true then do let ok ← isTrue c (compEnvC scope cl Ca X.env) (eval c (compEnvC scope cl Ca X.env)); pure (ForInStep.yield ok) else pure (ForInStep.yield r)) (TP (X.blk s0 H0 scope (compEnvC scope cl Ca X.env) fp) pins σ Q) (fun _ _ => False) s
def bE (X : Cx) (scope : Scope) (e : Expr) : TE := fun σ H Q => ∀ s0 H0 Ca cl fp, wpE (X.blk s0 H0 scope (compEnvC scope cl Ca X.env) fp) e σ H Q
theorem pg_b {X : Cx} {scope : Scope} {tg : Expr} (s0 : Shared) (H0 : Hp) (Ca : Addr) (cl : List (Str × Addr)) (fp : List Addr) : PG (X.blk s0 H0 scope (compEnvC scope cl Ca X.env) fp) tg (bG X scope tg) := ⟨fun pins s σ H v u Q I r h => h s0 H0 Ca cl fp pins s u I r⟩
theorem pts_b {X : Cx} {scope : Scope} {ifs : List Expr} (s0 : Shared) (H0 : Hp) (Ca : Addr) (cl : List (Str × Addr)) (fp : List Addr) : PTs (X.blk s0 H0 scope (compEnvC scope cl Ca X.env) fp) ifs (bT X scope ifs) := ⟨fun pins s σ H Q I h => h s0 H0 Ca cl fp pins s I⟩
theorem pe_b {X : Cx} {scope : Scope} {e : Expr} (s0 : Shared) (H0 : Hp) (Ca : Addr) (cl : List (Str × Addr)) (fp : List Addr) : PE (X.blk s0 H0 scope (compEnvC scope cl Ca X.env) fp) e (bE X scope e) := ⟨fun pins s σ H Q I h => h s0 H0 Ca cl fp pins s I⟩
section
variable {G : Gb} {k : Nat} {Γ : Sc} {e a b c o tg it elt : Expr} {ifs : List Expr} {pos p : Pos} {m me : M D} {mt : M Bool} {t : MT} {mi : M (List D)} {ws : List Nat}
theorem simts_nil : SimTs G k Γ [] mYes := fun X W C Z φ ρ st σ H Q rs re po pins s I => pts_nil.run pins s σ H Q I (po.ok rs)
theorem simts_one (h : SimT G k Γ c mt) : SimTs G k Γ [c] mt := fun X W C Z φ ρ st σ H Q rs re po pins s I => (pts_one pt_wp).run pins s σ H Q I (h X W C Z φ ρ st σ H Q rs re po)
theorem Ext.mut {φ φ' : List Addr} {H H' : Hp} {q : Addr} {o : HO} (x : Ext φ H φ' H') (h : H q = none) : Ext φ H φ' (upd H' q o) := ⟨x.pre, fun c u e n => ⟨by rw [upd_ne (ne_of_none e h)]; exact (x.keep c u e n).1, (x.keep c u e n).2⟩, fun c o' u e => by rw [upd_ne (ne_of_none e h)]; exact x.frz c o' u e⟩
theorem post.calm {α : Type} {Z φ : List Addr} {H : Hp} {r : Res α} {a : α} {st : Sto} {Q : List Addr → Hp → α → Sto → Prop} {W : XK} (h : calmR r = .ok a st) (q : ∀ φ' H', Ext φ H φ' H' → RS G Z φ' st H' → Q φ' H' a st) : post G Z φ H r Q W := by
  rw [calmR_ok h]
  exact q
theorem lc_any {X : Cx} {W : WX} (C : Cok G k Γ X W) {scope : Scope} {own : List (Str × Nat)} (hi : SimI G k Γ tg it mi)
    (hg : SimG G k (Γ.blk scope) tg ws t) (hw : ∀ i ∈ ws, i ∈ own.map (·.2)) (ht : SimTs G k (Γ.blk scope) ifs mt) (he : SimE G k (Γ.blk scope) elt me)
    {Z φ : List Addr} {ρ : En} {st : Sto} {σ : L2.St} {H : Hp} {Q : VK} (rs : RS G Z φ st H) (re : RepEn G Z φ H σ ρ)
    (po : match mComp mi t mt me (own.map (·.2)) ρ st with
      | .ok ds st' => ∀ φ' H' a vs, Ext φ H φ' H' → H a = none → RS G (a :: Z) φ' st' H' → H' a = some (.lst vs) → Reps G (a :: Z) φ' H' vs ds → Q (.ref a) H'
      | .er c d st' => post G Z φ H (.er c d st' : Res D) (fun _ _ _ _ => True) (fun c d H' => W c d σ H')
      | .no => False) :
    tLc (wpI X tg it) (bG X scope tg) (bT X scope ifs) (bE X scope elt) (own.map (·.2)) σ H Q := by
  refine hi X W C Z φ ρ st σ H _ rs re (post.mono (bndF (fun a st => compGo_noer a 0 st) po) fun φ1 H1 ds st1 x1 rs1 p1 J wk Da hD => ?_)
  cases e0 : compGo t mt me (own.map (·.2)) ρ ds 0 st1 with
  | er c d s => rw [e0] at p1; exact p1.elim
  | no => rw [e0] at p1; exact p1.elim
  | ok all stF =>
    rw [e0] at p1
    dsimp only at p1
    have hidn : ∀ {φ' H'}, Ext φ1 H1 φ' H' → Mv Z φ1 H1 (Da :: Z) φ' H' := fun x => (Mv.hide hD).trans x.mv
    refine ⟨fun i n H' => n = ds.length - i ∧ ∃ φ' st' av acc ys, Ext φ1 H1 φ' H' ∧ RS G (Da :: Z) φ' st' H' ∧ H' Da = some (.lst av) ∧ Reps G (Da :: Z) φ' H' av acc ∧ compGo t mt me (own.map (·.2)) ρ (ds.drop i) acc.length st' = .ok ys stF ∧ acc ++ ys = all,
      ⟨_, rfl, φ1, st1, [], [], all, Ext.new hD, rs1.newHid hD, upd_same, .nil, e0, rfl⟩, fun i n H' hW => ?_⟩
    obtain ⟨rfl, φ', st', av, acc, ys, x', rs', hl', ra, eg, rfl⟩ := hW
    obtain ⟨w1, w2⟩ := wk (Da :: Z) φ' st' H' x' (hidn x') rs' i
    by_cases hi : i < ds.length
    · have hd : ds[i]? = some ds[i] := List.getElem?_eq_getElem hi
      obtain ⟨g1, g2⟩ := w2 _ hd
      refine .inr ⟨g1, fun H2 => ∃ φ2 st2 av2 acc2 ys2, Ext φ1 H1 φ2 H2 ∧ RS G (Da :: Z) φ2 st2 H2 ∧ H2 Da = some (.lst av2) ∧ Reps G (Da :: Z) φ2 H2 av2 acc2 ∧ compGo t mt me (own.map (·.2)) ρ (ds.drop (i + 1)) acc2.length st2 = .ok ys2 stF ∧ acc2 ++ ys2 = acc ++ ys, fun H2 h2 => ⟨_, by omega, rfl, h2⟩, fun x H2 hy s0 H0 Ca cl fp => ?_⟩
      obtain ⟨x2, rs2, rx⟩ := g2 x H2 hy
      rw [List.drop_eq_getElem_cons hi] at eg
      unfold compGo at eg
      have reW : RepEn G (Da :: Z) φ' H2 (L2.wipe σ (own.map (·.2))) (wipeE ρ (own.map (·.2))) := (((re.ext x1).mv (hidn x')).ext x2).wipe _
      refine hg _ WF (C.blk scope s0 H0 Ca cl fp) (Da :: Z) φ' _ st' _ H2 x _ _ rs2 reW rx ?_
      split at eg
      · cases eg
      · rename_i ρ3 st3 e3
        rw [e3]
        intro φ3 H3 σ3 x3 rs3 re3 ag
        refine ⟨ag.wipe hw, fun s0 H0 Ca cl fp => ?_⟩
        obtain ⟨bb, st4, e4, eg⟩ := bind_is eg
        refine ht _ WF (C.blk scope s0 H0 Ca cl fp) (Da :: Z) φ3 ρ3 st3 σ3 H3 _ rs3 re3 (post.calm e4 fun φ4 H4 x4 rs4 => ?_)
        cases bb with
        | false =>
          rw [if_neg Bool.false_ne_true] at eg ⊢
          have xx := x2.trans (x3.trans x4)
          exact ⟨φ4, st4, av, acc, ys, x'.trans xx, rs4, (xx.keep _ _ hl' (rs'.hid Da List.mem_cons_self).2).1, ra.ext xx, eg, rfl⟩
        | true =>
          rw [if_pos rfl] at eg ⊢
          intro s0 H0 Ca cl fp
          obtain ⟨y, st5, e5, eg⟩ := bind_is eg
          refine he _ WF (C.blk scope s0 H0 Ca cl fp) (Da :: Z) φ4 ρ3 st4 σ3 H4 _ rs4 (re3.ext x4) (post.calm e5 fun φ5 H5 x5 rs5 v rv => ?_)
          split at eg
          · rename_i hz
            obtain ⟨ys', st6, e6, eg⟩ := bind_is eg
            have xx := x2.trans (x3.trans (x4.trans x5))
            have hl5 := (xx.keep _ _ hl' (rs'.hid Da List.mem_cons_self).2).1
            have ra5 := ra.ext xx
            obtain ⟨rs6, m6⟩ := rs5.hidPut (o := .lst (av ++ [v])) ⟨_, hl5⟩
            have e7 : ys = y :: ys' ∧ st6 = stF := by cases eg; exact ⟨rfl, rfl⟩
            obtain ⟨rfl, rfl⟩ := e7
            refine ⟨av, hl5, by rw [ra5.length]; exact Nat.lt_of_lt_of_le hz (by rw [sizeLine_eq]; exact Nat.le_refl _), φ5, st5, av ++ [v], acc ++ [y], ys', (x'.trans xx).mut hD, rs6, upd_same, (ra5.mv m6).append (.cons (rv.mv m6) .nil), ?_, by rw [List.append_assoc]; rfl⟩
            rw [List.length_append]
            exact e6
          · cases eg
    · refine .inl ⟨w1 (by omega), ?_⟩
      rw [List.drop_eq_nil_of_le (by omega)] at eg
      unfold compGo at eg
      have e7 : ys = [] ∧ st' = stF := by cases eg; exact ⟨rfl, rfl⟩
      obtain ⟨rfl, rfl⟩ := e7
      refine p1 φ' H' Da av x' hD rs' hl' ?_
      rw [List.append_nil]
      exact ra
/-- [elt for tg in it if ..] -/
theorem sim_lc {scope : Scope} (own : List (Str × Nat)) (hi : SimI G k Γ tg it mi) (hg : SimG G k (Γ.blk scope) tg ws t) (ht : SimTs G k (Γ.blk scope) ifs mt) (he : SimE G k (Γ.blk scope) elt me)
    (ok : blkC Γ.N Γ.sc scope own = true := by decide +kernel) (hw : ∀ i ∈ ws, i ∈ own.map (·.2) := by decide) (hs : ∀ (env : Env) x, foldedSetIterable it env x = pure x := by intro _ _; rfl) :
    SimF G k Γ (.ListComp elt [⟨tg, it, ifs, 0⟩] scope pos) (mComp mi t mt me (own.map (·.2))) := fun X W C Z φ ρ st σ H Q rs re po =>
  wp_pe (pe_lc (own := own) C.calm (by rw [C.N]; exact C.nd) pi_wp (by rw [C.N, C.sc]; exact blkOk_by ok)
    pg_b pts_b pe_b (hs X.env)) (lc_any C hi hg hw ht he rs re po)
/-- name = [..], on one line, to a local name: the list stays as it is, or is a cell's -/
theorem toF_pure {Z φ : List Addr} {ρ : En} {st : Sto} {σ : L2.St} {H : Hp} {i : Nat} {B : Ends} {W : WX} {ml : M (List D)} (rs : RS G Z φ st H) (re : RepEn G Z φ H σ ρ) (po : postS G Z φ H (sAs (tName i) (mPure ml) ρ st) B W) : (match ml ρ st with
      | .ok ds st' => ∀ φ' H' a vs, Ext φ H φ' H' → H a = none → RS G (a :: Z) φ' st' H' → H' a = some (.lst vs) → Reps G (a :: Z) φ' H' vs ds → B.nx (σ.set i (some (.ref a))) H'
      | .er c d st' => post G Z φ H (.er c d st' : Res D) (fun _ _ _ _ => True) (fun c d H' => W c d σ H')
      | .no => False) := by
  unfold sAs mPure at po
  cases e1 : ml ρ st with
  | no => rw [e1] at po; exact po
  | er c d s => rw [e1] at po; exact fun φ' H' A dx v x rs' => po φ' H' σ A dx v x rs' (re.ext x)
  | ok ds st' =>
    rw [e1] at po
    intro φ' H' q vs x hq rs' hl rp
    exact po φ' H' _ x rs'.shown ((re.ext x).set (.lst hl (rs'.hid q List.mem_cons_self).2 (notin_hid rs hq) (rp.mv Mv.show)) i)
theorem toF_box {Z φ : List Addr} {ρ : En} {st : Sto} {σ : L2.St} {H : Hp} {i : Nat} {B : Ends} {W : WX} {ml : M (List D)} (rs : RS G Z φ st H) (re : RepEn G Z φ H σ ρ) (po : postS G Z φ H (sAs (tName i) (mBox ml) ρ st) B W) : (match ml ρ st with
      | .ok ds st' => ∀ φ' H' a vs, Ext φ H φ' H' → H a = none → RS G (a :: Z) φ' st' H' → H' a = some (.lst vs) → Reps G (a :: Z) φ' H' vs ds → B.nx (σ.set i (some (.ref a))) H'
      | .er c d st' => post G Z φ H (.er c d st' : Res D) (fun _ _ _ _ => True) (fun c d H' => W c d σ H')
      | .no => False) := by
  unfold sAs mBox at po
  cases e1 : ml ρ st with
  | no => rw [e1] at po; exact po
  | er c d s => rw [e1] at po; exact fun φ' H' A dx v x rs' => po φ' H' σ A dx v x rs' (re.ext x)
  | ok ds st' =>
    rw [e1] at po
    intro φ' H' q vs x hq rs' hl rp
    have x' : Ext φ H (φ' ++ [q]) H' := ⟨by obtain ⟨t, e⟩ := x.pre; exact ⟨t ++ [q], by rw [e, List.append_assoc]⟩, fun c o hc n => ⟨(x.keep c o hc n).1, fun z => by
      rcases List.mem_append.mp z with z | z
      · exact (x.keep c o hc n).2 z
      · exact ne_of_none hc hq (by simpa using z)⟩, x.frz⟩
    refine po (φ' ++ [q]) H' _ x' (rs'.boxed hl rp (notin_hid rs hq)) ((re.ext x').set (.ref ?_) i)
    rw [← rs'.len, List.getElem?_append_right (Nat.le_refl _), Nat.sub_self]
    rfl
section
variable {scope : Scope} {y : Str} {py spos : Pos}
theorem set_lc_aux (i : Nat) (own : List (Str × Nat)) (hi : SimI G k Γ tg it mi) (hg : SimG G k (Γ.blk scope) tg ws t) (ht : SimTs G k (Γ.blk scope) ifs mt) (he : SimE G k (Γ.blk scope) elt me)
    (ok : blkC Γ.N Γ.sc scope own = true) (hw : ∀ i ∈ ws, i ∈ own.map (·.2)) (hs : ∀ (env : Env) x, foldedSetIterable it env x = pure x) (hy : Γ.N[i]? = some y) (hyl : Γ.sc.names.lookup y = some .local)
    (hk : Γ.sc.kind = .function) (hln : (py.line == pos.line) = true) (han : (scope.names.any fun (n, k) => n == y && (k == .local || k == .cell)) = false)
    {X : Cx} {W : WX} (C : CokS G k Γ X W) {Z φ : List Addr} {ρ : En} {st : Sto} {σ : L2.St} {H : Hp} {B : Ends} (rs : RS G Z φ st H) (re : RepEn G Z φ H σ ρ) (po : (match mComp mi t mt me (own.map (·.2)) ρ st with
      | .ok ds st' => ∀ φ' H' a vs, Ext φ H φ' H' → H a = none → RS G (a :: Z) φ' st' H' → H' a = some (.lst vs) → Reps G (a :: Z) φ' H' vs ds → B.nx (σ.set i (some (.ref a))) H'
      | .er c d st' => post G Z φ H (.er c d st' : Res D) (fun _ _ _ _ => True) (fun c d H' => W c d σ H')
      | .no => False)) : wpS X (.Assign [.Name y py] (.ListComp elt [⟨tg, it, ifs, 0⟩] scope pos) spos) B σ H := by
  refine wp_ps (ps_setLc (i := i) (own := own) C.calm (by rw [C.N]; exact C.nd) (by rw [C.N]; exact hy) (by rw [C.sc]; exact hyl) (sw_true (by rw [C.sc]; exact hk) (by rw [C.sc]; exact hyl) hln han) pi_wp (by rw [C.N, C.sc]; exact blkOk_by ok)
    pg_b pts_b pe_b (hs X.env)) ?_
  have := lc_any (Q := fun x H1 => B.nx (σ.set i (some x)) H1) C.toCok hi hg hw ht he rs re po
  exact this
theorem sim_setlc (i : Nat) (own : List (Str × Nat)) (hi : SimI G k Γ tg it mi) (hg : SimG G k (Γ.blk scope) tg ws t) (ht : SimTs G k (Γ.blk scope) ifs mt) (he : SimE G k (Γ.blk scope) elt me)
    (ok : blkC Γ.N Γ.sc scope own = true := by decide +kernel) (hw : ∀ i ∈ ws, i ∈ own.map (·.2) := by decide) (hs : ∀ (env : Env) x, foldedSetIterable it env x = pure x := by intro _ _; rfl) (hy : Γ.N[i]? = some y := by rfl) (hyl : Γ.sc.names.lookup y = some .local := by rfl)
    (hk : Γ.sc.kind = .function := by rfl) (hln : (py.line == pos.line) = true := by rfl) (han : (scope.names.any fun (n, k) => n == y && (k == .local || k == .cell)) = false := by decide +kernel) :
    SimS G k Γ (.Assign [.Name y py] (.ListComp elt [⟨tg, it, ifs, 0⟩] scope pos) spos) (sAs (tName i) (mPure (mComp mi t mt me (own.map (·.2))))) := fun X W C Z φ ρ st σ H B rs re po =>
  set_lc_aux i own hi hg ht he ok hw hs hy hyl hk hln han C rs re (toF_pure rs re po)
theorem sim_setlcB (i : Nat) (own : List (Str × Nat)) (hi : SimI G k Γ tg it mi) (hg : SimG G k (Γ.blk scope) tg ws t) (ht : SimTs G k (Γ.blk scope) ifs mt) (he : SimE G k (Γ.blk scope) elt me)
    (ok : blkC Γ.N Γ.sc scope own = true := by decide +kernel) (hw : ∀ i ∈ ws, i ∈ own.map (·.2) := by decide) (hs : ∀ (env : Env) x, foldedSetIterable it env x = pure x := by intro _ _; rfl) (hy : Γ.N[i]? = some y := by rfl) (hyl : Γ.sc.names.lookup y = some .local := by rfl)
    (hk : Γ.sc.kind = .function := by rfl) (hln : (py.line == pos.line) = true := by rfl) (han : (scope.names.any fun (n, k) => n == y && (k == .local || k == .cell)) = false := by decide +kernel) :
    SimS G k Γ (.Assign [.Name y py] (.ListComp elt [⟨tg, it, ifs, 0⟩] scope pos) spos) (sAs (tName i) (mBox (mComp mi t mt me (own.map (·.2))))) := fun X W C Z φ ρ st σ H B rs re po =>
  set_lc_aux i own hi hg ht he ok hw hs hy hyl hk hln han C rs re (toF_box rs re po)
end
end
end Kp

/-! # Kp, 7: operations on data -/
namespace Kp
open PySem PySem.Spec L2
open PyProof.Rows hiding St

/-! ### data as the library's data -/
mutual
def toPy : D → Option PyData
  | .non => some .none
  | .bl b => some (.bool b)
  | .int i => some (.int i)
  | .str x => some (.str x)
  | .tup xs => (toPys xs).map .tuple
  | .lst xs => (toPys xs).map .list
  | .fls xs => (toPys xs).map .list
  | .ref _ => none
  | .obj _ _ _ => none
def toPys : List D → Option (List PyData)
  | [] => some []
  | x :: xs => (toPy x).bind fun p => (toPys xs).map fun ps => p :: ps
end
/-- a cell's list, as a list -/
def dref (st : Sto) (d : D) : D := match d with
  | .ref n => match st[n]? with
    | some (.lst xs) => .lst xs
    | some (.lk (.lst xs)) => .lst xs
    | _ => d
  | d => d
section
variable {G : Gb} {Z φ : List Addr} {H : Hp} {st : Sto}
mutual
theorem Rep.dp : ∀ {v : V} {d : D} {p : PyData}, Rep G Z φ H v d → toPy d = some p → Dp G.K H v p
  | _, _, _, .non, h => by simp only [toPy] at h; cases h; exact .non
  | _, _, _, .bl b, h => by simp only [toPy] at h; cases h; exact .bl b
  | _, _, _, .int i, h => by simp only [toPy] at h; cases h; exact .int i
  | _, _, _, .str x, h => by simp only [toPy] at h; cases h; exact .str x
  | _, _, _, .tup (ds := ds) h1 r, h => by
    simp only [toPy] at h
    cases e : toPys ds with
    | none => rw [e] at h; cases h
    | some ps => rw [e] at h; cases h; exact .tup h1.sq (Reps.dp r e)
  | _, _, _, .lst (ds := ds) h1 n z r, h => by
    simp only [toPy] at h
    cases e : toPys ds with
    | none => rw [e] at h; cases h
    | some ps => rw [e] at h; cases h; exact .lst (.inl (.inl h1)) (Reps.dp r e)
  | _, _, _, .fls (ds := ds) h1 r, h => by
    simp only [toPy] at h
    cases e : toPys ds with
    | none => rw [e] at h; cases h
    | some ps => rw [e] at h; cases h; exact .lst h1.sq (Reps.dp r e)
  | _, _, _, .ref _, h => by simp only [toPy] at h; cases h
  | _, _, _, .obj _ _ _ _ _ _, h => by simp only [toPy] at h; cases h
theorem Reps.dp : ∀ {vs : List V} {ds : List D} {ps : List PyData}, Reps G Z φ H vs ds → toPys ds = some ps → DpAll G.K H vs ps
  | _, _, _, .nil, h => by simp only [toPys] at h; cases h; exact .nil
  | _, _, _, .cons (d := d) (ds := ds) r t, h => by
    simp only [toPys] at h
    cases e : toPy d with
    | none => rw [e] at h; cases h
    | some p =>
      rw [e, Option.bind_some] at h
      cases e2 : toPys ds with
      | none => rw [e2] at h; cases h
      | some qs => rw [e2] at h; cases h; exact .cons (Rep.dp r e) (Reps.dp t e2)
end
/-- what stands at a cell that is a list -/
theorem RS.lst (rs : RS G Z φ st H) {n : Nat} {xs : List D} {a : Addr} (h : st[n]? = some (.lst xs)) (q : φ[n]? = some a) : ∃ vs, H a = some (.lst vs) ∧ Reps G Z φ H vs xs := by
  obtain ⟨u, e, r⟩ := rs.cells n _ a h q
  cases u with
  | lst vs => exact ⟨vs, e, r⟩
  | _ => exact r.elim
theorem RS.lkl {n : Nat} {q : Addr} {xs : List D} (rs : RS G Z φ st H) (e : st[n]? = some (.lk (.lst xs))) (hq : φ[n]? = some q) : ∃ o vs, H q = some (.frz o (.lst vs)) ∧ Reps G Z φ H vs xs := by
  obtain ⟨o, u, e2, r2⟩ := rs.cells n _ q e hq
  cases u with
  | lst vs => exact ⟨o, vs, e2, r2⟩
  | _ => exact r2.elim
theorem Rep.dpr (rs : RS G Z φ st H) {v : V} {d : D} {p : PyData} (r : Rep G Z φ H v d) (h : toPy (dref st d) = some p) : Dp G.K H v p := by
  cases r with
  | @ref a n hq =>
    unfold dref at h
    dsimp only at h
    split at h
    · rename_i xs e
      obtain ⟨vs, e2, r2⟩ := rs.lst e hq
      simp only [toPy] at h
      cases e3 : toPys xs with
      | none => rw [e3] at h; cases h
      | some ps => rw [e3] at h; cases h; exact .lst (.inl (.inl e2)) (r2.dp e3)
    · rename_i xs e
      obtain ⟨o, vs, e2, r2⟩ := rs.lkl e hq
      simp only [toPy] at h
      cases e3 : toPys xs with
      | none => rw [e3] at h; cases h
      | some ps => rw [e3] at h; cases h; exact .lst (.inl (.inr ⟨o, e2⟩)) (r2.dp e3)
    · simp only [toPy] at h; cases h
  | non => exact Rep.dp (Z := Z) (φ := φ) .non h
  | bl b => exact Rep.dp (Z := Z) (φ := φ) (.bl b) h
  | int i => exact Rep.dp (Z := Z) (φ := φ) (.int i) h
  | str x => exact Rep.dp (Z := Z) (φ := φ) (.str x) h
  | tup h1 r => exact Rep.dp (.tup h1 r) h
  | lst h1 n z r => exact Rep.dp (.lst h1 n z r) h
  | fls h1 r => exact Rep.dp (.fls h1 r) h
  | obj a b c d e r => exact Rep.dp (.obj a b c d e r) h
end

/-! ### arithmetic -/
def mulOk (i j : Int) : Prop := i.natAbs < 2 ^ 64 ∨ j.natAbs < 2 ^ 64 ∨ i.natAbs.log2 + j.natAbs.log2 < 1000000
instance (i j : Int) : Decidable (mulOk i j) := by unfold mulOk; infer_instance
def gAdd : D → D → Sto → Res D := fun x y st => match x, y with
  | .int i, .int j => .ok (.int (i + j)) st
  | .str i, .str j => if i.length + j.length ≤ szMax then .ok (.str (i ++ j)) st else .no
  | .tup xs, .tup ys => if xs.length + ys.length ≤ szMax then .ok (.tup (xs ++ ys)) st else .no
  | .lst xs, .lst ys => if xs.length + ys.length ≤ szMax then .ok (.lst (xs ++ ys)) st else .no
  | _, _ => .no
def gSub : D → D → Sto → Res D := fun x y st => match x, y with
  | .int i, .int j => .ok (.int (i - j)) st
  | _, _ => .no
def gMul : D → D → Sto → Res D := fun x y st => match x, y with
  | .int i, .int j => if mulOk i j then .ok (.int (i * j)) st else .no
  | _, _ => .no
def gDiv : D → D → Sto → Res D := fun x y st => match x, y with
  | .int i, .int j => if 0 < j ∧ j.natAbs.log2 < 9000 then .ok (.int (i / j)) st else .no
  | _, _ => .no
def gMod : D → D → Sto → Res D := fun x y st => match x, y with
  | .int i, .int j => if 0 < j then .ok (.int (i % j)) st else .no
  | _, _ => .no
def gPow : D → D → Sto → Res D := fun x y st => match x, y with
  | .int i, .int j => if 0 ≤ j ∧ j ≤ 1000000 ∧ i.natAbs < 2 ^ 64 then .ok (.int (i ^ j.toNat)) st else .no
  | _, _ => .no
def gShl : D → D → Sto → Res D := fun x y st => match x, y with
  | .int i, .int j => if 0 ≤ j ∧ j ≤ 1000000 ∧ i.natAbs < 2 ^ 64 then .ok (.int (i * 2 ^ j.toNat)) st else .no
  | _, _ => .no
def gShr : D → D → Sto → Res D := fun x y st => match x, y with
  | .int i, .int j => if 0 ≤ j then .ok (.int (i / 2 ^ j.toNat)) st else .no
  | _, _ => .no
section
variable {G : Gb} {k : Nat}
theorem ops_int {f : Value → Value → Sem Value} {g : D → D → Sto → Res D} {C : Int → Int → Prop} {h : Int → Int → V} {hd : Int → Int → D} [∀ i j, Decidable (C i j)] (hop : ∀ X, OpR X f (rI C h)) (hr : ∀ Z φ H i j, Rep G Z φ H (h i j) (hd i j))
    (hg : ∀ x y st, g x y st = match x, y with | .int i, .int j => if C i j then .ok (hd i j) st else .no | _, _ => .no) : OpS G k f g := fun Γ X W C' Z φ st H Q x y d e rs r1 r2 po pins s σ v u I q1 q2 => by
  rw [hg] at po
  cases r1 with
  | int i =>
    cases r2 with
    | int j =>
      dsimp only at po
      split at po
      · rename_i hc
        exact hop X pins s σ H _ _ v u Q I q1 q2 ⟨i, j, rfl, rfl, hc, po.ok rs _ (hr _ _ _ _ _)⟩
      · exact po.elim
    | _ => exact (show False from po).elim
  | _ => exact (show False from po).elim
theorem ops_int0 {f : Value → Value → Sem Value} {g : D → D → Sto → Res D} {h : Int → Int → V} {hd : Int → Int → D} (hop : ∀ X, OpR X f (rI0 h)) (hr : ∀ Z φ H i j, Rep G Z φ H (h i j) (hd i j))
    (hg : ∀ x y st, g x y st = match x, y with | .int i, .int j => .ok (hd i j) st | _, _ => .no) : OpS G k f g := fun Γ X W C' Z φ st H Q x y d e rs r1 r2 po pins s σ v u I q1 q2 => by
  rw [hg] at po
  cases r1 with
  | int i =>
    cases r2 with
    | int j => exact hop X pins s σ H _ _ v u Q I q1 q2 ⟨i, j, rfl, rfl, post.ok po rs _ (hr _ _ _ _ _)⟩
    | _ => exact (show False from po).elim
  | _ => exact (show False from po).elim
theorem calm2_of {g : D → D → Sto → Res D} (h : ∀ x y st c d st', g x y st = .er c d st' → False) : Calm2 g := fun x y st c d st' e => h x y st c d st' e
theorem sub_ok : OpS G k (binaryOp .Sub) gSub := ops_int0 (hd := fun i j => .int (i - j)) (fun X => op_sub) (fun _ _ _ _ _ => .int _) fun x y st => rfl
theorem div_ok : OpS G k (binaryOp .FloorDiv) gDiv := ops_int (C := fun i j => 0 < j ∧ j.natAbs.log2 < 9000) (hd := fun i j => .int (i / j)) (fun X => op_fdivW) (fun _ _ _ _ _ => .int _) fun x y st => rfl
theorem mod_ok : OpS G k (binaryOp .Mod) gMod := ops_int (C := fun _ j => 0 < j) (hd := fun i j => .int (i % j)) (fun X => op_mod) (fun _ _ _ _ _ => .int _) fun x y st => rfl
theorem pow_ok : OpS G k (binaryOp .Pow) gPow := ops_int (C := fun i j => 0 ≤ j ∧ j ≤ 1000000 ∧ i.natAbs < 2 ^ 64) (hd := fun i j => .int (i ^ j.toNat)) (fun X => op_pow) (fun _ _ _ _ _ => .int _) fun x y st => rfl
theorem shl_ok : OpS G k (binaryOp .LShift) gShl := ops_int (C := fun i j => 0 ≤ j ∧ j ≤ 1000000 ∧ i.natAbs < 2 ^ 64) (hd := fun i j => .int (i * 2 ^ j.toNat)) (fun X => op_shl) (fun _ _ _ _ _ => .int _) fun x y st => rfl
theorem shr_ok : OpS G k (binaryOp .RShift) gShr := ops_int (C := fun i j => 0 ≤ j) (hd := fun i j => .int (i / 2 ^ j.toNat)) (fun X => op_shr) (fun _ _ _ _ _ => .int _) fun x y st => rfl
theorem mulOk.ok {i j : Int} (h : mulOk i j) : IntMulOk i j := by
  rcases h with h | h | h
  · exact CMul.ok (.inl (by omega))
  · exact CMul.ok (.inr (by omega))
  · exact CMulW.ok h
theorem op_mulA {X : Cx} : OpR X (binaryOp .Mult) (rI mulOk fun i j => .int (i * j)) := opI fun _ _ _ _ _ _ _ hc q => mul_int q hc.ok
theorem mul_ok : OpS G k (binaryOp .Mult) gMul := ops_int (C := mulOk) (hd := fun i j => .int (i * j)) (fun X => op_mulA) (fun _ _ _ _ _ => .int _) fun x y st => rfl
theorem add_ok : OpS G k (binaryOp .Add) gAdd := fun Γ X W C' Z φ st H Q x y d e rs r1 r2 po pins s σ v u I q1 q2 => by
  cases r1 with
  | int i =>
    cases r2 with
    | int j => exact op_add pins s σ H _ _ v u Q I q1 q2 ⟨i, j, rfl, rfl, post.ok po rs _ (.int _)⟩
    | _ => exact (show False from po).elim
  | str i =>
    cases r2 with
    | str j =>
      unfold gAdd at po
      dsimp only at po
      split at po
      · rename_i hz
        exact op_add_str pins s σ H _ _ v u Q I q1 q2 ⟨i, j, rfl, rfl, sz_ok hz, po.ok rs _ (.str _)⟩
      · exact po.elim
    | _ => exact (show False from po).elim
  | tup h1 r1 =>
    cases r2 with
    | tup h2 r2 =>
      unfold gAdd at po
      dsimp only at po
      split at po
      · rename_i a xs ds b ys es hz
        refine op_catA pins s σ H _ _ v u Q I q1 q2 ⟨a, b, xs, ys, rfl, rfl, by rw [C'.K]; exact h1.sq, by rw [C'.K]; exact h2.sq, by rw [r1.length, r2.length]; exact sz_ok hz, fun e => ?_, fun _ e => ?_, fun _ _ p hp => ?_⟩
        · subst e
          cases r1
          exact po.ok rs _ (.tup h2 r2)
        · subst e
          cases r2
          rw [List.append_nil] at po
          exact po.ok rs _ (.tup h1 r1)
        · exact (po.ext (Ext.new hp)).ok (rs.new hp) _ (rep_tup rs hp (r1.append r2))
      · exact po.elim
    | _ => exact (show False from po).elim
  | lst h1 n1 z1 r1 =>
    cases r2 with
    | lst h2 n2 z2 r2 =>
      unfold gAdd at po
      dsimp only at po
      split at po
      · rename_i a xs ds b ys es hz
        refine op_cat pins s σ H _ _ v u Q I q1 q2 ⟨a, b, xs, ys, rfl, rfl, h1, h2, by rw [r1.length, r2.length]; exact sz_ok hz, fun p hp => ?_⟩
        exact (po.ext (Ext.new hp)).ok (rs.new hp) _ (.lst upd_same (rs.fresh hp) (notin_hid rs hp) ((r1.append r2).ext (Ext.new hp)))
      · exact po.elim
    | _ => exact (show False from po).elim
  | _ => exact (show False from po).elim

/-! ### comparisons -/
def gLt : D → D → Sto → Res D := fun x y st => match x, y with
  | .int i, .int j => .ok (.bl (decide (i < j))) st
  | _, _ => .no
def gLe : D → D → Sto → Res D := fun x y st => match x, y with
  | .int i, .int j => .ok (.bl (decide (i ≤ j))) st
  | _, _ => .no
def gGt : D → D → Sto → Res D := fun x y st => match x, y with
  | .int i, .int j => .ok (.bl (decide (j < i))) st
  | _, _ => .no
def gGe : D → D → Sto → Res D := fun x y st => match x, y with
  | .int i, .int j => .ok (.bl (decide (j ≤ i))) st
  | _, _ => .no
theorem lt_ok : OpS G k (compareOp .Lt) gLt := ops_int0 (hd := fun i j => .bl (decide (i < j))) (fun X => op_lt) (fun _ _ _ _ _ => .bl _) fun x y st => rfl
theorem le_ok : OpS G k (compareOp .LtE) gLe := ops_int0 (hd := fun i j => .bl (decide (i ≤ j))) (fun X => op_le) (fun _ _ _ _ _ => .bl _) fun x y st => rfl
theorem gt_ok : OpS G k (compareOp .Gt) gGt := ops_int0 (hd := fun i j => .bl (decide (j < i))) (fun X => op_gt) (fun _ _ _ _ _ => .bl _) fun x y st => rfl
theorem ge_ok : OpS G k (compareOp .GtE) gGe := ops_int0 (hd := fun i j => .bl (decide (j ≤ i))) (fun X => op_ge) (fun _ _ _ _ _ => .bl _) fun x y st => rfl
def eqvD (x y : D) (st : Sto) : Option Bool := match toPy (dref st x), toPy (dref st y) with
  | some a, some b => if SeqAt.shaped a = true ∧ SeqAt.shaped b = true then some (PyData.eqv a b) else none
  | _, _ => none
def gEq : D → D → Sto → Res D := fun x y st => match eqvD x y st with
  | some b => .ok (.bl b) st
  | none => .no
def gNe : D → D → Sto → Res D := fun x y st => match eqvD x y st with
  | some b => .ok (.bl (!b)) st
  | none => .no
theorem eqvD_dp {Z φ : List Addr} {H : Hp} {st : Sto} {x y : V} {d e : D} {b : Bool} (rs : RS G Z φ st H) (r1 : Rep G Z φ H x d) (r2 : Rep G Z φ H y e) (h : eqvD d e st = some b) :
    ∃ p q, Dp G.K H x p ∧ Dp G.K H y q ∧ SeqAt.shaped p = true ∧ SeqAt.shaped q = true ∧ PyData.eqv p q = b := by
  unfold eqvD at h
  split at h
  · rename_i p q e1 e2
    split at h
    · rename_i hz
      cases h
      exact ⟨p, q, r1.dpr rs e1, r2.dpr rs e2, hz.1, hz.2, rfl⟩
    · cases h
  · cases h
theorem Cok.units {Γ : Sc} {X : Cx} {W : WX} (C : Cok G k Γ X W) : X.A.units + 100 < cLine := by
  have := C.room.un
  omega
theorem eq_ok : OpS G k (compareOp .Eq) gEq := fun Γ X W C' Z φ st H Q x y d e rs r1 r2 po pins s σ v u I q1 q2 => by
  unfold gEq at po
  split at po
  · rename_i b hb
    obtain ⟨p, q, h1, h2, h3, h4, h5⟩ := eqvD_dp rs r1 r2 hb
    exact op_eqD (by have := C'.units; omega) pins s σ H _ _ v u Q I q1 q2 ⟨p, q, by rw [C'.K]; exact h1, by rw [C'.K]; exact h2, h3, h4, by rw [h5]; exact po.ok rs _ (.bl _)⟩
  · exact po.elim
theorem ne_ok : OpS G k (compareOp .NotEq) gNe := fun Γ X W C' Z φ st H Q x y d e rs r1 r2 po pins s σ v u I q1 q2 => by
  unfold gNe at po
  split at po
  · rename_i b hb
    obtain ⟨p, q, h1, h2, h3, h4, h5⟩ := eqvD_dp rs r1 r2 hb
    exact op_neD (by have := C'.units; omega) pins s σ H _ _ v u Q I q1 q2 ⟨p, q, by rw [C'.K]; exact h1, by rw [C'.K]; exact h2, h3, h4, by rw [h5]; exact po.ok rs _ (.bl _)⟩
  · exact po.elim
/-- is, is not: None, True, False on the right -/
def isNonD : D → Bool
  | .non => true
  | _ => false
def isBlD (b : Bool) : D → Bool
  | .bl c => c == b
  | _ => false
def isD : D → D → Option Bool := fun x y => match y with
  | .non => some (isNonD x)
  | .bl b => some (isBlD b x)
  | _ => none
def gIs : D → D → Sto → Res D := fun x y st => match isD x y with
  | some b => .ok (.bl b) st
  | none => .no
def gIsNot : D → D → Sto → Res D := fun x y st => match isD x y with
  | some b => .ok (.bl (!b)) st
  | none => .no
end
end Kp

/-! # Kp, 8: is, in; built-in functions; subscripts; isinstance -/
namespace Kp
open PySem PySem.Spec L2
open PyProof.Rows hiding St

section
variable {G : Gb} {k : Nat}
/-! ### is -/
theorem RelV.isB {x : V} {v : Value} {b : Bool} (r : RelV x v) : plainIs v (.bool b) = true ∧ (v == Value.bool b) = decide (x = .bl b) := by
  cases x with
  | non => cases r; exact ⟨rfl, rfl⟩
  | bl c => cases r; exact ⟨rfl, by cases b <;> cases c <;> rfl⟩
  | int _ => obtain ⟨t, rfl⟩ := r; exact ⟨rfl, rfl⟩
  | str _ => obtain ⟨t, rfl⟩ := r; exact ⟨rfl, rfl⟩
  | byt _ => obtain ⟨t, rfl⟩ := r; exact ⟨rfl, rfl⟩
  | flt _ => obtain ⟨t, rfl⟩ := r; exact ⟨rfl, rfl⟩
  | ref _ => cases r; exact ⟨rfl, rfl⟩
  | ty _ => cases r; exact ⟨rfl, rfl⟩
theorem isD_val {Z φ : List Addr} {H : Hp} {x y : V} {d e : D} {b : Bool} (r1 : Rep G Z φ H x d) (r2 : Rep G Z φ H y e) (h : isD d e = some b) : (y = .non ∧ b = decide (x = .non)) ∨ ∃ c, y = .bl c ∧ b = decide (x = .bl c) := by
  cases r2 with
  | non =>
    refine .inl ⟨rfl, ?_⟩
    have h' : some (isNonD d) = some b := h
    cases h'
    cases r1 <;> first | rfl | exact (decide_eq_false (fun z => nomatch z)).symm
  | bl c =>
    refine .inr ⟨c, rfl, ?_⟩
    have h' : some (isBlD c d) = some b := h
    cases h'
    cases r1 with
    | bl a => cases a <;> cases c <;> rfl
    | _ => first | rfl | exact (decide_eq_false (fun z => nomatch z)).symm
  | _ => cases h
theorem is_ok : OpS G k (compareOp .Is) gIs := fun Γ X W C' Z φ st H Q x y d e rs r1 r2 po pins s σ v u I q1 q2 => by
  unfold gIs at po
  split at po
  · rename_i b hb
    rcases isD_val r1 r2 hb with ⟨rfl, e1⟩ | ⟨c, rfl, e1⟩
    · cases q2
      exact PyProof.Rows.is_none_gen ⟨.bl b, H, I, by rw [e1, ← q1.none_iff]; rfl, po.ok rs _ (.bl b)⟩
    · cases q2
      obtain ⟨h1, h2⟩ := RelV.isB (b := c) q1
      exact wpAny_is_plain h1 ⟨.bl b, H, I, by rw [h2, e1]; rfl, po.ok rs _ (.bl b)⟩
  · exact po.elim
theorem isnot_ok : OpS G k (compareOp .IsNot) gIsNot := fun Γ X W C' Z φ st H Q x y d e rs r1 r2 po pins s σ v u I q1 q2 => by
  unfold gIsNot at po
  split at po
  · rename_i b hb
    rcases isD_val r1 r2 hb with ⟨rfl, e1⟩ | ⟨c, rfl, e1⟩
    · cases q2
      exact PyProof.Rows.isnot_none_gen ⟨.bl (!b), H, I, by rw [e1, ← q1.none_iff]; rfl, po.ok rs _ (.bl (!b))⟩
    · cases q2
      obtain ⟨h1, h2⟩ := RelV.isB (b := c) q1
      exact wpAny_isNot_plain h1 ⟨.bl (!b), H, I, by rw [h2, e1]; rfl, po.ok rs _ (.bl (!b))⟩
  · exact po.elim

/-! ### in -/
def hasD (x y : D) (st : Sto) : Option Bool := match toPy (dref st x), toPy (dref st y) with
  | some a, some (.list ds) => if SeqAt.shaped a = true ∧ SeqAt.shaped (.list ds) = true then some (ds.any fun z => PyData.eqv z a) else none
  | some a, some (.tuple ds) => if SeqAt.shaped a = true ∧ SeqAt.shaped (.tuple ds) = true then some (ds.any fun z => PyData.eqv z a) else none
  | some (.str s), some (.str z) => match s with
    | ⟨a⟩ => match a.toList with
      | [c] => some (decide (c ∈ z.cps.toList))
      | _ => none
  | _, _ => none
def gIn : D → D → Sto → Res D := fun x y st => match hasD x y st with
  | some b => .ok (.bl b) st
  | none => .no
def gNotIn : D → D → Sto → Res D := fun x y st => match hasD x y st with
  | some b => .ok (.bl (!b)) st
  | none => .no
theorem hasD_val {Z φ : List Addr} {H : Hp} {st : Sto} {x y : V} {d e : D} {b : Bool} (rs : RS G Z φ st H) (r1 : Rep G Z φ H x d) (r2 : Rep G Z φ H y e) (h : hasD d e st = some b) :
    (∃ p ds, Dp G.K H x p ∧ (Dp G.K H y (.list ds) ∧ SeqAt.shaped (.list ds) = true ∨ Dp G.K H y (.tuple ds) ∧ SeqAt.shaped (.tuple ds) = true) ∧ SeqAt.shaped p = true ∧ b = (ds.any fun z => PyData.eqv z p)) ∨
    ∃ c z, x = .str ⟨#[c]⟩ ∧ y = .str z ∧ b = decide (c ∈ z.cps.toList) := by
  unfold hasD at h
  split at h
  · rename_i p ds e1 e2
    split at h
    · rename_i hz
      cases h
      exact .inl ⟨p, ds, r1.dpr rs e1, .inl ⟨r2.dpr rs e2, hz.2⟩, hz.1, rfl⟩
    · cases h
  · rename_i p ds e1 e2
    split at h
    · rename_i hz
      cases h
      exact .inl ⟨p, ds, r1.dpr rs e1, .inr ⟨r2.dpr rs e2, hz.2⟩, hz.1, rfl⟩
    · cases h
  · rename_i s z e1 e2
    obtain ⟨a⟩ := s
    dsimp only at h
    split at h
    · rename_i c hc
      cases h
      have h1 := r1.dpr rs e1
      have h2 := r2.dpr rs e2
      cases h1
      cases h2
      have ea : a = #[c] := by
        cases a with
        | mk l => exact congrArg Array.mk hc
      exact .inr ⟨c, z, by rw [ea], rfl, rfl⟩
    · cases h
  · cases h
theorem in_ok : OpS G k (compareOp .In) gIn := fun Γ X W C' Z φ st H Q x y d e rs r1 r2 po pins s σ v u I q1 q2 => by
  unfold gIn at po
  split at po
  · rename_i b hb
    have fin := po.ok rs _ (.bl b)
    rcases hasD_val rs r1 r2 hb with ⟨p, ds, h1, h2, h3, h4⟩ | ⟨c, z, rfl, rfl, h4⟩
    · have hu := C'.units
      rw [← C'.K] at h1 h2
      obtain ⟨as, t1⟩ := Dp.reads I p x v h1 q1
      rcases h2 with ⟨h2, h5⟩ | ⟨h2, h5⟩
      · obtain ⟨bs, t2⟩ := Dp.reads I _ y u h2 q2
        exact SeqAt.in_list_reads t2 t1 (SeqAt.canLay_of_shaped h5) (SeqAt.canLay_of_shaped h3) (PyProof.Rows.room_in_shaped h3 (by omega)) ⟨.bl b, H, I, by rw [h4]; rfl, fin⟩
      · obtain ⟨bs, t2⟩ := Dp.reads I _ y u h2 q2
        exact SeqAt.in_tuple_reads t2 t1 (SeqAt.canLay_of_shaped h5) (SeqAt.canLay_of_shaped h3) (PyProof.Rows.room_in_shaped h3 (by omega)) ⟨.bl b, H, I, by rw [h4]; rfl, fin⟩
    · exact op_in_sign pins s σ H _ _ v u Q I q1 q2 ⟨c, z, rfl, rfl, by rw [← h4]; exact fin⟩
  · exact po.elim
theorem notin_ok : OpS G k (compareOp .NotIn) gNotIn := fun Γ X W C' Z φ st H Q x y d e rs r1 r2 po pins s σ v u I q1 q2 => by
  unfold gNotIn at po
  split at po
  · rename_i b hb
    have fin := po.ok rs _ (.bl (!b))
    rcases hasD_val rs r1 r2 hb with ⟨p, ds, h1, h2, h3, h4⟩ | ⟨c, z, rfl, rfl, h4⟩
    · have hu := C'.units
      rw [← C'.K] at h1 h2
      obtain ⟨as, t1⟩ := Dp.reads I p x v h1 q1
      rcases h2 with ⟨h2, h5⟩ | ⟨h2, h5⟩
      · obtain ⟨bs, t2⟩ := Dp.reads I _ y u h2 q2
        exact SeqAt.notIn_list_reads t2 t1 (SeqAt.canLay_of_shaped h5) (SeqAt.canLay_of_shaped h3) (PyProof.Rows.room_in_shaped h3 (by omega)) ⟨.bl (!b), H, I, by rw [h4]; rfl, fin⟩
      · obtain ⟨bs, t2⟩ := Dp.reads I _ y u h2 q2
        exact SeqAt.notIn_tuple_reads t2 t1 (SeqAt.canLay_of_shaped h5) (SeqAt.canLay_of_shaped h3) (PyProof.Rows.room_in_shaped h3 (by omega)) ⟨.bl (!b), H, I, by rw [h4]; rfl, fin⟩
    · exact op_notIn_sign pins s σ H _ _ v u Q I q1 q2 ⟨c, z, rfl, rfl, by rw [← h4]; exact fin⟩
  · exact po.elim

/-! ### built-in functions -/
theorem Reps.one {Z φ : List Addr} {H : Hp} {vs : List V} {d : D} (r : Reps G Z φ H vs [d]) : ∃ v, vs = [v] ∧ Rep G Z φ H v d := by
  cases r with
  | cons r t => cases t; exact ⟨_, rfl, r⟩
theorem Reps.two {Z φ : List Addr} {H : Hp} {vs : List V} {d e : D} (r : Reps G Z φ H vs [d, e]) : ∃ v u, vs = [v, u] ∧ Rep G Z φ H v d ∧ Rep G Z φ H u e := by
  cases r with
  | cons r t =>
    obtain ⟨u, rfl, r'⟩ := Reps.one t
    exact ⟨_, _, rfl, r, r'⟩
/-- a sequence's items: a tuple's, a list's, a cell's -/
def seqO (st : Sto) (d : D) : Option (List D) := match dref st d with
  | .tup ds => some ds
  | .lst ds => some ds
  | .fls ds => some ds
  | _ => none
theorem seqO_val {Z φ : List Addr} {H : Hp} {st : Sto} {v : V} {d : D} {ds : List D} (rs : RS G Z φ st H) (r : Rep G Z φ H v d) (h : seqO st d = some ds) : ∃ a vs, v = .ref a ∧ (SqL G.K H a vs ∨ SqT G.K H a vs) ∧ Reps G Z φ H vs ds := by
  unfold seqO at h
  cases r with
  | tup h1 r => cases h; exact ⟨_, _, rfl, .inr h1.sq, r⟩
  | lst h1 n z r => cases h; exact ⟨_, _, rfl, .inl (.inl (.inl h1)), r⟩
  | fls h1 r => cases h; exact ⟨_, _, rfl, .inl h1.sq, r⟩
  | @ref a n hq =>
    unfold dref at h
    dsimp only at h
    cases e : st[n]? with
    | none => rw [e] at h; cases h
    | some c =>
      rw [e] at h
      cases c with
      | lst xs =>
        cases h
        obtain ⟨vs, e2, r2⟩ := rs.lst e hq
        exact ⟨_, _, rfl, .inl (.inl (.inl e2)), r2⟩
      | lk c' =>
        cases c' with
        | lst xs =>
          cases h
          obtain ⟨o, vs, e2, r2⟩ := rs.lkl e hq
          exact ⟨_, _, rfl, .inl (.inl (.inr ⟨o, e2⟩)), r2⟩
        | _ => cases h
      | _ => cases h
  | _ => cases h
/-- .. of a list alone -/
def lstO (st : Sto) (d : D) : Option (List D) := match dref st d with
  | .lst ds => some ds
  | .fls ds => some ds
  | _ => none
theorem lstO_val {Z φ : List Addr} {H : Hp} {st : Sto} {v : V} {d : D} {ds : List D} (rs : RS G Z φ st H) (r : Rep G Z φ H v d) (h : lstO st d = some ds) : ∃ a vs, v = .ref a ∧ SqL G.K H a vs ∧ Reps G Z φ H vs ds := by
  unfold lstO at h
  cases r with
  | lst h1 n z r => cases h; exact ⟨_, _, rfl, .inl (.inl h1), r⟩
  | fls h1 r => cases h; exact ⟨_, _, rfl, h1.sq, r⟩
  | @ref a n hq =>
    unfold dref at h
    dsimp only at h
    cases e : st[n]? with
    | none => rw [e] at h; cases h
    | some c =>
      rw [e] at h
      cases c with
      | lst xs =>
        cases h
        obtain ⟨vs, e2, r2⟩ := rs.lst e hq
        exact ⟨_, _, rfl, .inl (.inl e2), r2⟩
      | lk c' =>
        cases c' with
        | lst xs =>
          cases h
          obtain ⟨o, vs, e2, r2⟩ := rs.lkl e hq
          exact ⟨_, _, rfl, .inl (.inr ⟨o, e2⟩), r2⟩
        | _ => cases h
      | _ => cases h
  | _ => cases h
def intsO : List D → Option (List Int)
  | [] => some []
  | .int i :: ds => (intsO ds).map fun l => i :: l
  | _ :: _ => none
theorem intsO_val {Z φ : List Addr} {H : Hp} : ∀ {vs : List V} {ds : List D} {ns : List Int}, Reps G Z φ H vs ds → intsO ds = some ns → vs = ns.map V.int
  | _, _, _, .nil, h => by cases h; rfl
  | _, _, _, .cons (ds := ds) r t, h => by
    cases r with
    | int i =>
      unfold intsO at h
      cases e : intsO ds with
      | none => rw [e] at h; cases h
      | some l => rw [e] at h; cases h; rw [List.map_cons, intsO_val t e]
    | _ => cases h
theorem intsO_map (ns : List Int) : intsO (ns.map D.int) = some ns := by
  induction ns with
  | nil => rfl
  | cons n ns ih => rw [List.map_cons]; unfold intsO; rw [ih]; rfl
theorem reps_ints {Z φ : List Addr} {H : Hp} (ns : List Int) : Reps G Z φ H (ns.map V.int) (ns.map D.int) := by
  induction ns with
  | nil => exact .nil
  | cons n ns ih => exact .cons (.int n) ih
def blsO : List D → Option (List Bool)
  | [] => some []
  | .bl i :: ds => (blsO ds).map fun l => i :: l
  | _ :: _ => none
theorem blsO_val {Z φ : List Addr} {H : Hp} : ∀ {vs : List V} {ds : List D} {ns : List Bool}, Reps G Z φ H vs ds → blsO ds = some ns → vs = ns.map V.bl
  | _, _, _, .nil, h => by cases h; rfl
  | _, _, _, .cons (ds := ds) r t, h => by
    cases r with
    | bl i =>
      unfold blsO at h
      cases e : blsO ds with
      | none => rw [e] at h; cases h
      | some l => rw [e] at h; cases h; rw [List.map_cons, blsO_val t e]
    | _ => cases h
theorem blsO_map (ns : List Bool) : blsO (ns.map D.bl) = some ns := by
  induction ns with
  | nil => rfl
  | cons n ns ih => rw [List.map_cons]; unfold blsO; rw [ih]; rfl

def gLen : List D → Sto → Res D := fun ds st => match ds with
  | [.str x] => if x.length ≤ szMax then .ok (.int x.length) st else .no
  | [d] => match seqO st d with
    | some xs => .ok (.int xs.length) st
    | none => .no
  | _ => .no
theorem len_ok : CallS G k (.builtin "len") gLen := fun Γ X W C Z φ st H Q xs ds rs rr po pins s σ us I q => by
  unfold gLen at po
  split at po
  · rename_i x
    obtain ⟨v, rfl, r⟩ := rr.one
    cases r
    split at po
    · rename_i hz
      exact call_len_str pins s σ H _ us Q I q ⟨x, rfl, sz_ok hz, po.ok rs _ (.int _)⟩
    · exact po.elim
  · rename_i d _
    obtain ⟨v, rfl, r⟩ := rr.one
    split at po
    · rename_i xs e
      obtain ⟨a, vs, rfl, hq, r2⟩ := seqO_val rs r e
      exact call_len_seq pins s σ H _ us Q I q ⟨a, vs, rfl, by rw [C.K]; exact hq, by rw [r2.length]; exact po.ok rs _ (.int _)⟩
    · exact po.elim
  · exact po.elim
def gAbs : List D → Sto → Res D := fun ds st => match ds with
  | [.int i] => .ok (.int (if i < 0 then -i else i)) st
  | _ => .no
theorem abs_ok : CallS G k (.builtin "abs") gAbs := fun Γ X W C Z φ st H Q xs ds rs rr po pins s σ us I q => by
  unfold gAbs at po
  split at po
  · rename_i i
    obtain ⟨v, rfl, r⟩ := rr.one
    cases r
    exact call_abs pins s σ H _ us Q I q ⟨i, rfl, po.ok rs _ (.int _)⟩
  · exact po.elim
def gInt : List D → Sto → Res D := fun ds st => match ds with
  | [.int i] => .ok (.int i) st
  | [.bl b] => .ok (.int (if b then 1 else 0)) st
  | _ => .no
theorem int_ok : CallS G k (.type "int") gInt := fun Γ X W C Z φ st H Q xs ds rs rr po pins s σ us I q => by
  unfold gInt at po
  split at po
  · rename_i i
    obtain ⟨v, rfl, r⟩ := rr.one
    cases r
    exact call_int1 pins s σ H _ us Q I q (.inl ⟨i, rfl, po.ok rs _ (.int _)⟩)
  · rename_i b
    obtain ⟨v, rfl, r⟩ := rr.one
    cases r
    exact call_int1 pins s σ H _ us Q I q (.inr ⟨b, rfl, po.ok rs _ (.int _)⟩)
  · exact po.elim
/-- the greatest, the least of some ints -/
def maxF (i : Int) (l : List Int) : Int := l.foldl (fun a b => if b > a then b else a) i
def minF (i : Int) (l : List Int) : Int := l.foldl (fun a b => if b < a then b else a) i
theorem maxF_spec : ∀ (l : List Int) (i : Int), maxF i l ∈ i :: l ∧ ∀ a ∈ i :: l, a ≤ maxF i l
  | [], i => by simp [maxF]
  | j :: r, i => by
    obtain ⟨h1, h2⟩ := maxF_spec r (if j > i then j else i)
    have e : maxF i (j :: r) = maxF (if j > i then j else i) r := rfl
    rw [e]
    have h3 := h2 _ List.mem_cons_self
    have c : (j > i ∧ (if j > i then j else i) = j) ∨ (¬ j > i ∧ (if j > i then j else i) = i) := by
      by_cases z : j > i
      · exact .inl ⟨z, if_pos z⟩
      · exact .inr ⟨z, if_neg z⟩
    generalize (if j > i then j else i) = m at *
    refine ⟨?_, fun a ha => ?_⟩
    · rcases List.mem_cons.mp h1 with z | z
      · rw [z]; rcases c with ⟨_, c⟩ | ⟨_, c⟩ <;> simp [c]
      · exact List.mem_cons_of_mem _ (List.mem_cons_of_mem _ z)
    · rcases List.mem_cons.mp ha with rfl | ha
      · rcases c with ⟨_, c⟩ | ⟨_, c⟩ <;> omega
      · rcases List.mem_cons.mp ha with rfl | ha
        · rcases c with ⟨_, c⟩ | ⟨_, c⟩ <;> omega
        · exact h2 a (List.mem_cons_of_mem _ ha)
theorem minF_spec : ∀ (l : List Int) (i : Int), minF i l ∈ i :: l ∧ ∀ a ∈ i :: l, minF i l ≤ a
  | [], i => by simp [minF]
  | j :: r, i => by
    obtain ⟨h1, h2⟩ := minF_spec r (if j < i then j else i)
    have e : minF i (j :: r) = minF (if j < i then j else i) r := rfl
    rw [e]
    have h3 := h2 _ List.mem_cons_self
    have c : (j < i ∧ (if j < i then j else i) = j) ∨ (¬ j < i ∧ (if j < i then j else i) = i) := by
      by_cases z : j < i
      · exact .inl ⟨z, if_pos z⟩
      · exact .inr ⟨z, if_neg z⟩
    generalize (if j < i then j else i) = m at *
    refine ⟨?_, fun a ha => ?_⟩
    · rcases List.mem_cons.mp h1 with z | z
      · rw [z]; rcases c with ⟨_, c⟩ | ⟨_, c⟩ <;> simp [c]
      · exact List.mem_cons_of_mem _ (List.mem_cons_of_mem _ z)
    · rcases List.mem_cons.mp ha with rfl | ha
      · rcases c with ⟨_, c⟩ | ⟨_, c⟩ <;> omega
      · rcases List.mem_cons.mp ha with rfl | ha
        · rcases c with ⟨_, c⟩ | ⟨_, c⟩ <;> omega
        · exact h2 a (List.mem_cons_of_mem _ ha)
def gMax : List D → Sto → Res D := fun ds st => match ds with
  | [.int i, .int j] => .ok (.int (if j > i then j else i)) st
  | [d] => match (lstO st d).bind intsO with
    | some (n :: ns) => .ok (.int (maxF n ns)) st
    | _ => .no
  | _ => .no
def gMin : List D → Sto → Res D := fun ds st => match ds with
  | [.int i, .int j] => .ok (.int (if j < i then j else i)) st
  | [d] => match (lstO st d).bind intsO with
    | some (n :: ns) => .ok (.int (minF n ns)) st
    | _ => .no
  | _ => .no
theorem max_ok : CallS G k (.builtin "max") gMax := fun Γ X W C Z φ st H Q xs ds rs rr po pins s σ us I q => by
  unfold gMax at po
  split at po
  · rename_i i j
    obtain ⟨v, u, rfl, r, r'⟩ := rr.two
    cases r
    cases r'
    exact call_max2 C.calm pins s σ H _ us Q I q ⟨i, j, rfl, po.ok rs _ (.int _)⟩
  · rename_i d
    obtain ⟨v, rfl, r⟩ := rr.one
    split at po
    · rename_i n ns e
      cases e1 : lstO st d with
      | none => rw [e1] at e; cases e
      | some l =>
        rw [e1, Option.bind_some] at e
        obtain ⟨a, vs, rfl, hq, r2⟩ := lstO_val rs r e1
        have ev := intsO_val r2 e
        subst ev
        refine cr_max C.calm pins s σ H _ us Q I q ⟨a, n :: ns, rfl, by rw [C.K]; exact hq, by simp, fun m hm hle => ?_⟩
        obtain ⟨g1, g2⟩ := maxF_spec ns n
        have e2 : m = maxF n ns := Int.le_antisymm (g2 m hm) (hle _ g1)
        rw [e2]
        exact po.ok rs _ (.int _)
    · exact po.elim
  · exact po.elim
theorem min_ok : CallS G k (.builtin "min") gMin := fun Γ X W C Z φ st H Q xs ds rs rr po pins s σ us I q => by
  unfold gMin at po
  split at po
  · rename_i i j
    obtain ⟨v, u, rfl, r, r'⟩ := rr.two
    cases r
    cases r'
    exact call_min2 C.calm pins s σ H _ us Q I q ⟨i, j, rfl, po.ok rs _ (.int _)⟩
  · rename_i d
    obtain ⟨v, rfl, r⟩ := rr.one
    split at po
    · rename_i n ns e
      cases e1 : lstO st d with
      | none => rw [e1] at e; cases e
      | some l =>
        rw [e1, Option.bind_some] at e
        obtain ⟨a, vs, rfl, hq, r2⟩ := lstO_val rs r e1
        have ev := intsO_val r2 e
        subst ev
        refine cr_min C.calm pins s σ H _ us Q I q ⟨a, n :: ns, rfl, by rw [C.K]; exact hq, by simp, fun m hm hle => ?_⟩
        obtain ⟨g1, g2⟩ := minF_spec ns n
        have e2 : m = minF n ns := Int.le_antisymm (hle _ g1) (g2 m hm)
        rw [e2]
        exact po.ok rs _ (.int _)
    · exact po.elim
  · exact po.elim
def gSum : List D → Sto → Res D := fun ds st => match ds with
  | [d] => match (lstO st d).bind intsO with
    | some ns => .ok (.int ns.sum) st
    | _ => .no
  | _ => .no
theorem sum_ok : CallS G k (.builtin "sum") gSum := fun Γ X W C Z φ st H Q xs ds rs rr po pins s σ us I q => by
  unfold gSum at po
  split at po
  · rename_i d
    obtain ⟨v, rfl, r⟩ := rr.one
    split at po
    · rename_i ns e
      cases e1 : lstO st d with
      | none => rw [e1] at e; cases e
      | some l =>
        rw [e1, Option.bind_some] at e
        obtain ⟨a, vs, rfl, hq, r2⟩ := lstO_val rs r e1
        have ev := intsO_val r2 e
        subst ev
        exact cr_sum C.calm pins s σ H _ us Q I q ⟨a, ns, rfl, by rw [C.K]; exact hq, po.ok rs _ (.int _)⟩
    · exact po.elim
  · exact po.elim
def gAny : List D → Sto → Res D := fun ds st => match ds with
  | [d] => match (lstO st d).bind blsO with
    | some bs => .ok (.bl (bs.any id)) st
    | _ => .no
  | _ => .no
def gAll : List D → Sto → Res D := fun ds st => match ds with
  | [d] => match (lstO st d).bind blsO with
    | some bs => .ok (.bl (bs.all id)) st
    | _ => .no
  | _ => .no
theorem any_ok : CallS G k (.builtin "any") gAny := fun Γ X W C Z φ st H Q xs ds rs rr po pins s σ us I q => by
  unfold gAny at po
  split at po
  · rename_i d
    obtain ⟨v, rfl, r⟩ := rr.one
    split at po
    · rename_i ns e
      cases e1 : lstO st d with
      | none => rw [e1] at e; cases e
      | some l =>
        rw [e1, Option.bind_some] at e
        obtain ⟨a, vs, rfl, hq, r2⟩ := lstO_val rs r e1
        have ev := blsO_val r2 e
        subst ev
        exact cr_any C.calm pins s σ H _ us Q I q ⟨a, ns, rfl, by rw [C.K]; exact hq, po.ok rs _ (.bl _)⟩
    · exact po.elim
  · exact po.elim
theorem all_ok : CallS G k (.builtin "all") gAll := fun Γ X W C Z φ st H Q xs ds rs rr po pins s σ us I q => by
  unfold gAll at po
  split at po
  · rename_i d
    obtain ⟨v, rfl, r⟩ := rr.one
    split at po
    · rename_i ns e
      cases e1 : lstO st d with
      | none => rw [e1] at e; cases e
      | some l =>
        rw [e1, Option.bind_some] at e
        obtain ⟨a, vs, rfl, hq, r2⟩ := lstO_val rs r e1
        have ev := blsO_val r2 e
        subst ev
        exact cr_all C.calm pins s σ H _ us Q I q ⟨a, ns, rfl, by rw [C.K]; exact hq, po.ok rs _ (.bl _)⟩
    · exact po.elim
  · exact po.elim
/-- tuple(x): of a list a new one, a tuple is itself -/
def gTuple : List D → Sto → Res D := fun ds st => match ds with
  | [d] => match seqO st d with
    | some xs => .ok (.tup xs) st
    | none => .no
  | _ => .no
theorem tuple_ok : CallS G k (.type "tuple") gTuple := fun Γ X W C Z φ st H Q xs ds rs rr po pins s σ us I q => by
  unfold gTuple at po
  split at po
  · rename_i d
    obtain ⟨v, rfl, r⟩ := rr.one
    split at po
    · rename_i xs e
      have key : (∃ es, d = .tup es ∧ es = xs) ∨ lstO st d = some xs := by
        unfold seqO at e
        unfold lstO
        cases q : dref st d with
        | tup es =>
          rw [q] at e; cases e
          refine .inl ⟨xs, ?_, rfl⟩
          unfold dref at q
          split at q
          · split at q <;> cases q
          · exact q
        | lst es => rw [q] at e; cases e; exact .inr rfl
        | fls es => rw [q] at e; cases e; exact .inr rfl
        | _ => rw [q] at e; cases e
      rcases key with ⟨es, rfl, rfl⟩ | e2
      · cases r with
        | tup h1 r1 => exact call_tuple_of pins s σ H _ us Q I q ⟨_, _, rfl, .inr ⟨by rw [C.K]; exact h1.sq, po.ok rs _ (.tup h1 r1)⟩⟩
      · obtain ⟨a, vs, rfl, hq, r2⟩ := lstO_val rs r e2
        exact call_tuple_of pins s σ H _ us Q I q ⟨a, vs, rfl, .inl ⟨by rw [C.K]; exact hq, fun p hp => (po.ext (Ext.new hp)).ok (rs.new hp) _ (rep_tup rs hp r2)⟩⟩
    · exact po.elim
  · exact po.elim
/-- list(x), sorted(x): new lists -/
def gList : List D → Sto → Res (List D) := fun ds st => match ds with
  | [d] => match seqO st d with
    | some xs => .ok xs st
    | none => .no
  | _ => .no
theorem newF {Z φ : List Addr} {H : Hp} {st : Sto} {p : Addr} {vs : List V} {ds : List D} {Q : VK} (rs : RS G Z φ st H) (hp : H p = none) (r : Reps G Z φ H vs ds)
    (po : ∀ φ' H' a vs, Ext φ H φ' H' → H a = none → RS G (a :: Z) φ' st H' → H' a = some (.lst vs) → Reps G (a :: Z) φ' H' vs ds → Q (.ref a) H') : Q (.ref p) (upd H p (.lst vs)) :=
  po φ _ p vs (Ext.new hp) hp (rs.newHid hp) upd_same ((r.mv (Mv.hide hp)).mv (Ext.new hp).mv)
theorem list_ok : CallF G k (.type "list") gList := fun Γ X W C Z φ st H Q xs ds rs rr po pins s σ us I q => by
  unfold gList at po
  split at po
  · rename_i es st' e0
    split at e0
    · rename_i d
      obtain ⟨v, rfl, r⟩ := rr.one
      split at e0
      · rename_i xs e
        cases e0
        obtain ⟨a, vs, rfl, hq, r2⟩ := seqO_val rs r e
        exact call_list_of pins s σ H _ us Q I q ⟨a, vs, rfl, by rw [C.K]; exact hq, fun p hp => newF rs hp r2 po⟩
      · cases e0
    · cases e0
  · exact po.elim
/-- ints in order -/
def sortI (ns : List Int) : List Int := ns.mergeSort fun a b => decide (a ≤ b)
theorem sortI_uniq {ns l : List Int} (h1 : l.Perm ns) (h2 : l.Pairwise (· ≤ ·)) : l = sortI ns := by
  have p1 : (sortI ns).Perm ns := List.mergeSort_perm ns _
  have p2 : (sortI ns).Pairwise (fun a b => decide (a ≤ b) = true) := List.pairwise_mergeSort (fun a b c h h' => by simp at *; omega) (fun a b => by simp; omega) ns
  refine (h1.trans p1.symm).eq_of_pairwise (le := fun a b => a ≤ b) (fun a b _ _ h h' => Int.le_antisymm h h') h2 (p2.imp fun h => by simpa using h)
def gSorted : List D → Sto → Res (List D) := fun ds st => match ds with
  | [d] => match (lstO st d).bind intsO with
    | some ns => .ok ((sortI ns).map .int) st
    | none => .no
  | _ => .no
theorem sorted_ok : CallF G k (.builtin "sorted") gSorted := fun Γ X W C Z φ st H Q xs ds rs rr po pins s σ us I q => by
  unfold gSorted at po
  split at po
  · rename_i es st' e0
    split at e0
    · rename_i d
      obtain ⟨v, rfl, r⟩ := rr.one
      split at e0
      · rename_i ns e
        cases e0
        cases e1 : lstO st d with
        | none => rw [e1] at e; cases e
        | some l =>
          rw [e1, Option.bind_some] at e
          obtain ⟨a, vs, rfl, hq, r2⟩ := lstO_val rs r e1
          have ev := intsO_val r2 e
          subst ev
          refine cr_sortedI pins s σ H _ us Q I q ⟨a, ns, rfl, by rw [C.K]; exact hq, fun ns' p h1 h2 hp => ?_⟩
          have e3 := sortI_uniq h1 h2
          subst e3
          exact newF rs hp (reps_ints _) po
      · cases e0
    · cases e0
  · exact po.elim
/-- list(range(..)) -/
def mListRng (f : List D → Sto → Res (List D)) (r : M (List D)) : M (List D) := fun ρ st => (r ρ st).bind fun ds st => (f ds st).bind fun es st => if es.length ≤ szMax then .ok es st else .no
end
end Kp

/-! # Kp, 9: subscripts, methods of lists, stores to places, isinstance, x += e -/
namespace Kp
open PySem PySem.Spec L2
open PyProof.Rows hiding St

section
variable {G : Gb} {k : Nat} {Γ : Sc} {e a b c o : Expr} {es : List Expr} {pos p apos cpos : Pos} {m ma mb mc : M D} {mt mu : M Bool} {ml : M (List D)}
theorem Reps.atI {Z φ : List Addr} {H : Hp} {vs : List V} {ds : List D} {i : Int} {d : D} (r : Reps G Z φ H vs ds) (h : atI ds i = some d) : ∃ v, L2.atI vs i = some v ∧ Rep G Z φ H v d := by
  unfold L2.atI at h ⊢
  rw [r.length]
  cases q : ixN ds.length i with
  | none => rw [q] at h; cases h
  | some j =>
    rw [q, Option.bind_some] at h
    rw [Option.bind_some]
    exact r.get h
/-! ### x[i] -/
def gIx : D → D → Sto → Res D := fun x y st => match y with
  | .int i => match x with
    | .str z => if z.length ≤ szMax then (match L2.atI z.cps.toList i with
      | some c => .ok (.str ⟨#[c]⟩) st
      | none => .no) else .no
    | x => match seqO st x with
      | some ds => match L2.atI ds i with
        | some d => .ok d st
        | none => .no
      | none => .no
  | _ => .no
def rIxWp (X : Cx) : R2 := fun x y H Q => ∀ value slice pins s σ v u, Inv X pins σ H s → RelV x v → RelV y u → subscripted slice false v u = operate [v, u] (getItem v u) → wpAny (model X.prog X.w) X.A (subscriptTail value slice v u) (EP X pins σ Q) X.xe s
theorem ix_wp {X : Cx} : IxR X (rIxWp X) := fun value slice pins s σ H x y v u Q I r1 r2 h hs => h value slice pins s σ v u I r1 r2 hs
theorem sim_ix (ha : SimE G k Γ a ma) (hb : SimE G k Γ b mb) (hs : PlainIx b := by exact fun _ _ => rfl) : SimE G k Γ (.Subscript a b pos) (mOp gIx ma mb) := fun X W C Z φ ρ st σ H Q rs re po =>
  wp_pe (pe_ix ix_wp pe_wp pe_wp hs) (ha X W C Z φ ρ st σ H _ rs re (post.mono (post.bnd po) fun φ1 H1 x st1 x1 rs1 p1 v rv =>
    hb X W C Z φ1 ρ st1 σ H1 _ rs1 (re.ext x1) (post.mono (post.bnd p1) fun φ2 H2 y st2 x2 rs2 p2 u ru => by
      intro value slice pins s σ' v' u' I q1 q2 hsub
      have rv' := rv.ext x2
      cases ru with
      | int i =>
        unfold gIx at p2
        dsimp only at p2
        split at p2
        · rename_i z
          cases rv'
          split at p2
          · rename_i hz
            split at p2
            · rename_i cc hcc
              exact ix_str value slice pins s σ' H2 _ _ v' u' Q I q1 q2 ⟨z, i, cc, rfl, rfl, sz_ok hz, hcc, p2.ok rs2 _ (.str _)⟩ hsub
            · exact p2.elim
          · exact p2.elim
        · split at p2
          · rename_i ds hds
            split at p2
            · rename_i d hd
              obtain ⟨q, vs, rfl, hq, rr⟩ := seqO_val rs2 rv' hds
              obtain ⟨w, hw, rw'⟩ := rr.atI hd
              rw [← C.K] at hq
              rcases hq with hq | hq
              · exact ix_list value slice pins s σ' H2 _ _ v' u' Q I q1 q2 ⟨q, vs, i, w, rfl, rfl, hq, hw, p2.ok rs2 _ rw'⟩ hsub
              · exact ix_tup value slice pins s σ' H2 _ _ v' u' Q I q1 q2 ⟨q, vs, i, w, rfl, rfl, hq, hw, p2.ok rs2 _ rw'⟩ hsub
            · exact p2.elim
          · exact p2.elim
      | _ => exact (show False from p2).elim)))

/-! ### methods of built-in types: the receiver first, then the arguments -/
def mMt (g : D → List D → Sto → Res D) (m : M D) (r : M (List D)) : M D := fun ρ st => (m ρ st).bind fun x st => (r ρ st).bind fun xs st => g x xs st
def MtS (G : Gb) (k : Nat) (T id : String) (g : D → List D → Sto → Res D) : Prop := ∀ Γ X W, Cok G k Γ X W → ∀ Z φ st H Q x xs d ds, RS G Z φ st H → Rep G Z φ H x d → Reps G Z φ H xs ds →
  post G Z φ H (g d ds st) (fun φ' H' z _ => ∀ v, Rep G Z φ' H' v z → Q v H') (fun _ _ _ => False) → ∀ pins s σ v us, Inv X pins σ H s → RelV x v → Vals xs us → wpAny (model X.prog X.w) X.A (call (.builtin id) (v :: us)) (EP X pins σ Q) X.xe s
def CalmM (g : D → List D → Sto → Res D) : Prop := ∀ x xs st c d st', g x xs st ≠ .er c d st'
def rMtWp (X : Cx) (id : String) : V → List V → Hp → VK → Prop := fun x xs H Q => ∀ pins s σ v us, Inv X pins σ H s → RelV x v → Vals xs us → wpAny (model X.prog X.w) X.A (call (.builtin id) (v :: us)) (EP X pins σ Q) X.xe s
theorem mt_wp {X : Cx} {id : String} : MtR X id (rMtWp X id) := fun pins s σ H x xs v us Q I r1 r2 h => h pins s σ v us I r1 r2
/-- the type of the receiver, by its data -/
def tyOk (st : Sto) (T : String) : D → Bool
  | .str _ => T == "str"
  | .lst _ => T == "list"
  | .fls _ => T == "list"
  | .ref n => match st[n]? with
    | some (.lst _) => T == "list"
    | some (.dk _) => T == "dict"
    | some (.dt _) => T == "dict"
    | _ => false
  | _ => false
theorem tyOk_val {Z φ : List Addr} {H : Hp} {st : Sto} {T : String} {v : V} {d : D} (rs : RS G Z φ st H) (r : Rep G Z φ H v d) (h : tyOk st T d = true) : tyV G.K T v H := by
  cases r with
  | str x => exact eq_of_beq h
  | lst h1 n z r => exact .inl ⟨eq_of_beq h, _, .inl (.inl h1)⟩
  | fls h1 r => exact .inl ⟨eq_of_beq h, _, h1.sq⟩
  | @ref a n hq =>
    unfold tyOk at h
    dsimp only at h
    split at h
    · rename_i xs e1
      obtain ⟨vs, e2, r2⟩ := rs.lst e1 hq
      exact .inl ⟨eq_of_beq h, _, .inl (.inl e2)⟩
    · rename_i kvs e1
      obtain ⟨u, e2, r2⟩ := rs.cells n _ a e1 hq
      cases u with
      | dK ws => exact .inr (.inr (.inl ⟨eq_of_beq h, .inl ⟨ws, e2⟩⟩))
      | _ => exact r2.elim
    · rename_i kvs e1
      obtain ⟨u, e2, r2⟩ := rs.cells n _ a e1 hq
      cases u with
      | dT ws => exact .inr (.inr (.inl ⟨eq_of_beq h, .inr ⟨ws, e2⟩⟩))
      | _ => exact r2.elim
    · cases h
  | _ => cases h
def mMtT (T : String) (g : D → List D → Sto → Res D) (m : M D) (r : M (List D)) : M D := fun ρ st => (m ρ st).bind fun x st => if tyOk st T x = true then (r ρ st).bind fun xs st => g x xs st else .no
theorem sim_mt {T id : String} {name : Str} {g : D → List D → Sto → Res D} (hf : MtS G k T id g) (hc : CalmM g) (pa : PlainAttrs T) (slot : Slot T name id) (hty : typeOf (.builtin id) = pure (.type "method_descriptor")) (ho : SimE G k Γ o m) (h : SimA G k Γ (e :: es) ml)
    (hbase : ∀ env : Env, attributeBase o name env (eval o env) = eval o env := by intro _; rfl) (hfew : ∀ env : Env, ((backTo cpos (starEach (e :: es) env)).all (fun x => !x.1) && (backToKw cpos (keywordEach [] env)).all (fun x => x.1.isSome)
      && decide ((e :: es).length + ([] : List Keyword).length + (if ([] : List Keyword).isEmpty then 0 else 1) < 30)) = true := by intro _; rfl)
    (hline : (apos.endLine == cpos.line) = true := by rfl) (hs : ∀ env : Env, starEach (e :: es) env = (false, eval e env) :: starEach es env := by intro _; rfl) (hpl : ∀ env : Env, (backTo cpos (starEach es env)).any (·.1) = false := by intro _; rfl) :
    SimE G k Γ (.Call (.Attribute o name apos) (e :: es) [] cpos) (mMtT T g m ml) := fun X W C Z φ ρ st σ H Q rs re po =>
  wp_pe (pe_bm pa slot hty mt_wp pe_wp pa_wp (hbase X.env) (hfew X.env) hline (hs X.env) (hpl X.env)) (ho X W C Z φ ρ st σ H _ rs re (post.mono (post.bnd po) fun φ1 H1 x st1 x1 rs1 p1 v rv => by
    split at p1
    · rename_i ht
      refine ⟨by rw [C.K]; exact tyOk_val rs1 rv ht, h X W C Z φ1 ρ st1 σ H1 _ rs1 (re.ext x1) (post.mono (post.bnd p1) fun φ2 H2 xs st2 x2 rs2 p2 vs rvs => ?_)⟩
      exact fun pins s σ' v' us I q1 q2 => hf Γ X W C Z φ2 st2 H2 Q v vs x xs rs2 (rv.ext x2) rvs (p2.noer (hc _ _ _)) pins s σ' v' us I q1 q2
    · exact p1.elim))
theorem sim_mt0 {T id : String} {name : Str} {g : D → List D → Sto → Res D} (hf : MtS G k T id g) (hc : CalmM g) (pa : PlainAttrs T) (slot : Slot T name id) (hty : typeOf (.builtin id) = pure (.type "method_descriptor")) (ho : SimE G k Γ o m)
    (hbase : ∀ env : Env, attributeBase o name env (eval o env) = eval o env := by intro _; rfl) (hline : (apos.endLine == cpos.line) = true := by rfl) :
    SimE G k Γ (.Call (.Attribute o name apos) [] [] cpos) (mMtT T g m mNil) := fun X W C Z φ ρ st σ H Q rs re po =>
  wp_pe (pe_bm0 pa slot hty mt_wp pe_wp (hbase X.env) hline) (ho X W C Z φ ρ st σ H _ rs re (post.mono (post.bnd po) fun φ1 H1 x st1 x1 rs1 p1 v rv => by
    split at p1
    · rename_i ht
      refine ⟨by rw [C.K]; exact tyOk_val rs1 rv ht, ?_⟩
      exact fun pins s σ' v' us I q1 q2 => hf Γ X W C Z φ1 st1 H1 Q v [] x [] rs1 rv .nil (post.noer (show post G Z φ1 H1 (g x [] st1) _ _ from p1) (hc _ _ _)) pins s σ' v' us I q1 q2
    · exact p1.elim))
/-- a cell's list changes -/
theorem RS.putL {Z φ : List Addr} {H : Hp} {st : Sto} {n : Nat} {q : Addr} {vs us : List V} {ds : List D} (rs : RS G Z φ st H) (hq : φ[n]? = some q) (e2 : H q = some (.lst us)) (r : Reps G Z φ H vs ds) : RS G Z φ (st.set n (.lst ds)) (upd H q (.lst vs)) ∧ Ext φ H φ (upd H q (.lst vs)) := by
  have x : Ext φ H φ (upd H q (.lst vs)) := Ext.put (List.mem_of_getElem? hq) (fun o u z => by rw [e2] at z; cases z)
  refine ⟨rs.put hq fun H' mv => ?_, x⟩
  by_cases z : H' q = some (.lst vs)
  · exact .inl ⟨_, z, r.mv mv⟩
  · exact .inr z
/-- xs.append(y), xs.pop(), xs.pop(i) of a cell's list -/
def gAppend : D → List D → Sto → Res D := fun x xs st => match x, xs with
  | .ref n, [y] => match st[n]? with
    | some (.lst ds) => if ds.length < szMax then .ok .non (st.set n (.lst (ds ++ [y]))) else .no
    | _ => .no
  | _, _ => .no
theorem append_ok : MtS G k "list" "list.append" gAppend := fun Γ X W C Z φ st H Q x xs d ds rs r1 r2 po pins s σ v us I q1 q2 => by
  unfold gAppend at po
  split at po
  · rename_i n y
    obtain ⟨u, rfl, ry⟩ := r2.one
    cases r1 with
    | @ref q _ hq =>
      split at po
      · rename_i ds e1
        split at po
        · rename_i hz
          obtain ⟨vs, e2, r⟩ := rs.lst e1 hq
          obtain ⟨rs', x'⟩ := rs.putL hq e2 (r.append (.cons ry .nil))
          exact mt_append pins s σ H _ _ v us Q I q1 q2 ⟨q, vs, u, rfl, rfl, e2, by rw [r.length]; exact Nat.lt_of_lt_of_le hz (by rw [sizeLine_eq]; exact Nat.le_refl _), po φ _ x' rs' _ .non⟩
        · exact po.elim
      · exact po.elim
  · exact po.elim
def gPop : D → List D → Sto → Res D := fun x xs st => match x, xs with
  | .ref n, [] => match st[n]? with
    | some (.lst ds) => match ds[ds.length - 1]? with
      | some y => .ok y (st.set n (.lst ds.dropLast))
      | none => .no
    | _ => .no
  | .ref n, [.int i] => match st[n]? with
    | some (.lst ds) => if -(2 ^ 63) ≤ i ∧ i < 2 ^ 63 then (match seqIndex? i ds.length with
      | some j => match ds[j]? with
        | some y => .ok y (st.set n (.lst (ds.eraseIdx j)))
        | none => .no
      | none => .no) else .no
    | _ => .no
  | _, _ => .no
theorem pop_ok : MtS G k "list" "list.pop" gPop := fun Γ X W C Z φ st H Q x xs d ds rs r1 r2 po pins s σ v us I q1 q2 => by
  unfold gPop at po
  split at po
  · rename_i n
    cases r2
    cases r1 with
    | @ref q _ hq =>
      split at po
      · rename_i ds e1
        split at po
        · rename_i y hy
          obtain ⟨vs, e2, r⟩ := rs.lst e1 hq
          obtain ⟨w, hw, rw'⟩ := r.get hy
          obtain ⟨rs', x'⟩ := rs.putL hq e2 r.dropLast
          exact mt_pop pins s σ H _ _ v us Q I q1 q2 ⟨q, vs, w, rfl, rfl, e2, by rw [r.length]; exact hw, po φ _ x' rs' _ (rw'.ext x')⟩
        · exact po.elim
      · exact po.elim
  · rename_i n i
    obtain ⟨u, rfl, ry⟩ := r2.one
    cases ry
    cases r1 with
    | @ref q _ hq =>
      split at po
      · rename_i ds e1
        split at po
        · rename_i hz
          split at po
          · rename_i j hj
            split at po
            · rename_i y hy
              obtain ⟨vs, e2, r⟩ := rs.lst e1 hq
              obtain ⟨w, hw, rw'⟩ := r.get hy
              obtain ⟨rs', x'⟩ := rs.putL hq e2 (r.erase j)
              exact mt_popAt pins s σ H _ _ v us Q I q1 q2 ⟨q, vs, i, j, w, rfl, rfl, e2, hz.1, hz.2, by rw [r.length]; exact hj, hw, po φ _ x' rs' _ (rw'.ext x')⟩
            · exact po.elim
          · exact po.elim
        · exact po.elim
      · exact po.elim
  · exact po.elim
/-- list.index: the first place of an equal one -/
def idxD (p : PyData) : List PyData → Option Nat
  | [] => none
  | q :: qs => if PyData.eqv q p = true then some 0 else (idxD p qs).map (· + 1)
theorem idxD_spec {p : PyData} : ∀ {qs : List PyData} {j : Nat}, idxD p qs = some j → (∃ z, qs[j]? = some z ∧ PyData.eqv z p = true) ∧ ∀ m z', m < j → qs[m]? = some z' → PyData.eqv z' p = false
  | [], j, h => by cases h
  | q :: qs, j, h => by
    unfold idxD at h
    split at h
    · rename_i hq
      cases h
      exact ⟨⟨q, rfl, hq⟩, fun m z' hm => absurd hm (Nat.not_lt_zero _)⟩
    · rename_i hq
      cases e : idxD p qs with
      | none => rw [e] at h; cases h
      | some i =>
        rw [e] at h
        cases h
        obtain ⟨⟨z, h1, h2⟩, h3⟩ := idxD_spec e
        refine ⟨⟨z, by simpa using h1, h2⟩, fun m z' hm hz => ?_⟩
        cases m with
        | zero => simp at hz; subst hz; simpa using hq
        | succ m => exact h3 m z' (Nat.lt_of_succ_lt_succ hm) (by simpa using hz)
def gIndex : D → List D → Sto → Res D := fun x xs st => match xs with
  | [y] => match toPy (dref st x), toPy (dref st y) with
    | some (.list ds), some p => if SeqAt.shaped (.list ds) = true ∧ SeqAt.shaped p = true then (match idxD p ds with
      | some j => .ok (.int (j : Nat)) st
      | none => .no) else .no
    | _, _ => .no
  | _ => .no
theorem index_ok : MtS G k "list" "list.index" gIndex := fun Γ X W C Z φ st H Q x xs d ds rs r1 r2 po pins s σ v us I q1 q2 => by
  unfold gIndex at po
  split at po
  · rename_i y
    obtain ⟨u, rfl, ry⟩ := r2.one
    split at po
    · rename_i qs p e1 e2
      split at po
      · rename_i hz
        split at po
        · rename_i j hj
          obtain ⟨⟨z, g1, g2⟩, g3⟩ := idxD_spec hj
          have h1 := r1.dpr rs e1
          have h2 := ry.dpr rs e2
          have hx : ∃ q, x = .ref q := by cases h1; exact ⟨_, rfl⟩
          obtain ⟨q, rfl⟩ := hx
          exact mt_indexD (by have := C.units; omega) pins s σ H _ _ v us Q I q1 q2 ⟨q, u, p, qs, j, z, rfl, rfl, by rw [C.K]; exact h1, by rw [C.K]; exact h2, hz.1, hz.2, g1, g2, g3, po.ok rs _ (.int _)⟩
        · exact po.elim
      · exact po.elim
    · exact po.elim
  · exact po.elim

/-! ### x[i] = e: a cell's list -/
def tPut (mo mi : M D) : MT := fun d ρ st => match mo ρ st with
  | .ok (.ref n) st1 => match mi ρ st1 with
    | .ok (.int i) st2 => match st2[n]? with
      | some (.lst ds) => match ixN ds.length i with
        | some j => some (ρ, st2.set n (.lst (ds.set j d)))
        | none => none
      | _ => none
    | _ => none
  | _ => none
theorem simg_put {io : M D} (ho : SimE G k Γ o m) (hi : SimE G k Γ e io) (ha : ∀ (env : Env) v, assign (.Subscript o e pos) env v = (do
      let ov ← holding [v] (eval o env)
      let iv ← holding [v, ov] (eval e env)
      standAt pos
      holding [v, ov, iv] (setItem ov iv v)
      release [v, ov, iv] []) := by intro _ _; rfl) : SimG G k Γ (.Subscript o e pos) [] (tPut m io) := fun X W C Z φ ρ st σ H v d Q rs re rv po =>
  wp_pg (pg_sub pe_wp pe_wp set_list (ha X.env)) (by
    unfold tPut at po
    refine ho X W C Z φ ρ st σ H _ rs re ?_
    split at po
    · rename_i n st1 e1
      rw [e1]
      intro φ1 H1 x1 rs1 v1 r1
      refine hi X W C Z φ1 ρ st1 σ H1 _ rs1 (re.ext x1) ?_
      split at po
      · rename_i i st2 e2
        rw [e2]
        intro φ2 H2 x2 rs2 v2 r2
        split at po
        · rename_i ds e3
          split at po
          · rename_i j hj
            have r1' := r1.ext x2
            cases r2
            cases r1' with
            | @ref q _ hq =>
              obtain ⟨vs, e4, r⟩ := rs2.lst e3 hq
              have rv2 := rv.ext (x1.trans x2)
              obtain ⟨rs', x'⟩ := rs2.putL hq e4 (Reps.set rv2 j r)
              exact ⟨q, vs, i, j, rfl, rfl, e4, by rw [r.length]; exact hj, po φ2 _ σ (x1.trans (x2.trans x')) rs' (re.ext (x1.trans (x2.trans x'))) (Agr.refl _ _)⟩
          · exact po.elim
        · exact po.elim
      · exact po.elim
    · exact po.elim)

/-! ### x += e of a name -/
def sAug (i : Nat) (g : D → D → Sto → Res D) (m : M D) : MS := fun ρ st => match ρ[i]? with
  | some (some x) => eb (m ρ st) ρ fun y st => eb (g x y st) ρ fun z st => .nx (ρ.set i (some z)) st
  | _ => .no
theorem sim_aug {op : Operator} {g : D → D → Sto → Res D} (i : Nat) {x : Str} (hop : OpS G k (inplaceOp op) g) (hcm : Calm2 g) (h : SimE G k Γ e m) (hi : Γ.N[i]? = some x := by rfl)
    (hx : Loc Γ.sc x := by first | exact Or.inl rfl | exact Or.inr rfl) (hf : Γ.fn x = true ∨ Γ.sc.names.lookup x = some .local := by first | exact .inl rfl | exact .inr rfl) : SimS G k Γ (.AugAssign (.Name x p) op e pos) (sAug i g m) := fun X W C Z φ ρ st σ H B rs re po =>
  wp_ps (ps_aug (i := i) (ti := rWp X (inplaceOp op)) (by rw [C.N]; exact C.nd) (by rw [C.N]; exact hi) (by rw [C.sc]; exact hx) pe_wp (fun pins s σ H x y v u Q I r1 r2 h => h pins s σ v u I r1 r2) (by rw [C.sc, C.fn]; exact hf)) (by
    unfold sAug at po
    split at po
    · rename_i d e1
      obtain ⟨v, e2, r⟩ := re.2 i d e1
      refine ⟨v, e2, h X W C.toCok Z φ ρ st σ H _ rs re (post.mono (postS.bnd re po) fun φ1 H1 y st1 x1 rs1 p1 u ru => ?_)⟩
      intro pins s σ' v' u' I q1 q2
      exact hop Γ X W C.toCok Z φ1 st1 H1 _ v u d y rs1 (r.ext x1) ru (post.noer (W := fun c d H' => W c d σ H') (post.mono (postS.bnd (re.ext x1) p1) fun φ2 H2 z st2 x2 rs2 p2 w rw' => p2 φ2 H2 _ (Ext.refl _ _) rs2 (((re.ext x1).ext x2).set rw' i)) (hcm _ _ _)) pins s σ' v' u' I q1 q2
    · exact po.elim)
theorem iadd_ok : OpS G k (inplaceOp .Add) (fun x y st => match x, y with | .int i, .int j => .ok (.int (i + j)) st | .str i, .str j => if i.length + j.length ≤ szMax then .ok (.str (i ++ j)) st else .no | _, _ => .no) := fun Γ X W C' Z φ st H Q x y d e rs r1 r2 po pins s σ v u I q1 q2 => by
  cases r1 with
  | int i =>
    cases r2 with
    | int j => exact iop_add pins s σ H _ _ v u Q I q1 q2 ⟨i, j, rfl, rfl, post.ok po rs _ (.int _)⟩
    | _ => exact (show False from po).elim
  | str i =>
    cases r2 with
    | str j =>
      dsimp only at po
      split at po
      · rename_i hz
        exact iop_add_str pins s σ H _ _ v u Q I q1 q2 ⟨i, j, rfl, rfl, sz_ok hz, po.ok rs _ (.str _)⟩
      · exact po.elim
    | _ => exact (show False from po).elim
  | _ => exact (show False from po).elim

/-! ### isinstance(x, T), built-in types -/
def tyName (st : Sto) : D → Option String
  | .non => some "NoneType"
  | .bl _ => some "bool"
  | .int _ => some "int"
  | .str _ => some "str"
  | .tup _ => some "tuple"
  | .lst _ => some "list"
  | .fls _ => some "list"
  | .ref n => match st[n]? with
    | some (.lst _) => some "list"
    | some (.dk _) => some "dict"
    | some (.dt _) => some "dict"
    | _ => none
  | .obj _ _ _ => none
def subT (a b : String) : Bool := a == b || (a == "bool" && b == "int")
theorem subT_ok : ∀ a ∈ ["NoneType", "bool", "int", "str", "tuple", "list", "dict"], ∀ b ∈ ["bool", "int", "str", "tuple", "list", "dict"], kitB a b = some (subT a b) := by decide +kernel
theorem Ft.tyx {K : PySem.W.Frag} {φ : List Addr} {H : Hp} {q : Addr} {vs : List V} (h : Ft K φ H q vs) : TyX K H (.ref q) (.type "tuple") := by
  rcases h with ⟨h | ⟨o, h⟩, n⟩ | (h | h)
  · exact .base (.tup h)
  · exact .fTuple h
  · rcases h with h | ⟨_, h⟩ <;> cases h
  · obtain ⟨o, its, n, h1, h2, _⟩ := h
    exact .kTuple h1 h2
theorem Fl.tyx {K : PySem.W.Frag} {φ : List Addr} {H : Hp} {q : Addr} {vs : List V} (h : Fl K φ H q vs) : TyX K H (.ref q) (.type "list") := by
  rcases h with ⟨⟨o, h⟩, n⟩ | (h | h)
  · exact .base (.frz h)
  · rcases h with h | ⟨_, h⟩ <;> cases h
  · obtain ⟨o, its, n, h1, h2, _⟩ := h
    exact .kList h1 h2
theorem tyName_val {Z φ : List Addr} {H : Hp} {st : Sto} {v : V} {d : D} {T : String} (rs : RS G Z φ st H) (r : Rep G Z φ H v d) (h : tyName st d = some T) : TyX G.K H v (.type T) ∧ T ∈ ["NoneType", "bool", "int", "str", "tuple", "list", "dict"] := by
  cases r with
  | non => cases h; exact ⟨.base .non, by decide⟩
  | bl b => cases h; exact ⟨.base (.bl b), by decide⟩
  | int i => cases h; exact ⟨.base (.int i), by decide⟩
  | str x => cases h; exact ⟨.base (.str x), by decide⟩
  | tup h1 r => cases h; exact ⟨h1.tyx, by decide⟩
  | lst h1 n z r => cases h; exact ⟨.base (.lst h1), by decide⟩
  | fls h1 r => cases h; exact ⟨h1.tyx, by decide⟩
  | @ref q n hq =>
    unfold tyName at h
    dsimp only at h
    split at h
    · rename_i xs e1
      obtain ⟨vs, e2, r2⟩ := rs.lst e1 hq
      cases h
      exact ⟨.base (.lst e2), by decide⟩
    · rename_i kvs e1
      obtain ⟨u, e2, r2⟩ := rs.cells n _ q e1 hq
      cases h
      cases u with
      | dK ws => exact ⟨.base (.dK e2), by decide⟩
      | _ => exact r2.elim
    · rename_i kvs e1
      obtain ⟨u, e2, r2⟩ := rs.cells n _ q e1 hq
      cases h
      cases u with
      | dT ws => exact ⟨.base (.dT e2), by decide⟩
      | _ => exact r2.elim
    · cases h
  | obj _ _ _ _ _ _ => cases h
def mIsi (T : String) (m : M D) : M D := fun ρ st => (m ρ st).bind fun d st => match tyName st d with
  | some a => .ok (.bl (subT a T)) st
  | none => .no
theorem sim_isi {T : String} {x y : Str} {p1 p2 : Pos} (h : SimE G k Γ e m) (hm : G.mg x = none) (hmT : G.mg y = none) (hx : x = "isinstance" := by rfl) (hv : bootBuiltins y = some (.type T) := by decide +kernel) (hT : T ∈ ["bool", "int", "str", "tuple", "list", "dict"] := by decide)
    (hg : GlG Γ x := by rfl) (hgT : GlG Γ y := by rfl) (hny : y ≠ "__name__" := by decide) (hdy : (y == ("__debug__" : Str)) = false := by decide)
    (he : ∀ env : Env, starEach [e, .Name y p2] env = (false, eval e env) :: starEach [.Name y p2] env := by intro _; rfl) (hpl : ∀ env : Env, (backTo pos (starEach [.Name y p2] env)).any (·.1) = false := by intro _; rfl) :
    SimE G k Γ (.Call (.Name x p1) [e, .Name y p2] [] pos) (mIsi T m) := fun X W C Z φ ρ st σ H Q rs re po => by
  subst hx
  refine wp_pe (pe_callB call_isi (C.gl hg) (by rw [C.mg]; exact hm) (by decide +kernel) (pa_cons pe_wp (pa_cons (pe_bltn (v := .ty T) (C.gl hgT) (by rw [C.mg]; exact hmT) hv rfl hny hdy) pa_nil) (he X.env)) (by decide) (by decide) (he X.env) (hpl X.env)) ?_
  refine h X W C Z φ ρ st σ H _ rs re (post.mono (post.bnd po) fun φ1 H1 d st1 x1 rs1 p1 v rv => ?_)
  split at p1
  · rename_i a ha
    obtain ⟨t1, t2⟩ := tyName_val rs1 rv ha
    exact ⟨v, .ty T, .type a, .type T, subT a T, rfl, .ty T, by rw [C.K]; exact t1, kit_ty (subT_ok a t2 T hT), p1.ok rs1 _ (.bl _)⟩
  · exact p1.elim
end
end Kp

/-! # Kp, 10: defs from their bodies; the law's end; a, b = x, y; constants of the module; list(range(..)) -/
namespace Kp
open PySem PySem.Spec L2
open PyProof.Rows hiding St

/-! ### a def by its body -/
def runF (n : Nat) (ms : MS) : List D → Sto → Res D := fun ds st => match ms (ds.map some ++ List.replicate (n - ds.length) none) st with
  | .nx _ st => .ok .non st
  | .rt d st => .ok d st
  | .er c d _ st => .er c d st
  | _ => .no
abbrev Sc.of (N : List Str) (sc : Scope) : Sc := ⟨N, sc, fun _ => true⟩
section
variable {G : Gb} {k : Nat}
theorem start_rep {Z φ : List Addr} {H : Hp} (N : List Str) : ∀ {vs : List V} {ds : List D}, Reps G Z φ H vs ds → RepEn G Z φ H (L2.start N vs) (ds.map some ++ List.replicate (N.length - ds.length) none) := fun {vs ds} r => by
  have hl := r.length
  refine ⟨by unfold L2.start; rw [List.length_append, List.length_append, List.length_map, List.length_map, hl, List.length_replicate, List.length_replicate], fun i d h => ?_⟩
  unfold L2.start
  by_cases hi : i < ds.length
  · rw [List.getElem?_append_left (by simpa using hi), List.getElem?_map] at h
    rw [List.getElem?_append_left (by simpa [hl] using hi), List.getElem?_map]
    cases q : ds[i]? with
    | none => rw [q] at h; cases h
    | some d' =>
      rw [q] at h
      cases h
      obtain ⟨v, e, rv⟩ := r.get q
      exact ⟨v, by rw [e]; rfl, rv⟩
  · rw [List.getElem?_append_right (by simpa using hi), List.getElem?_replicate] at h
    split at h <;> cases h
theorem fn_body {x qual : Str} {st : Stmt} {f : Addr} {fd : FuncData} {N ps : List Str} {ms : MS} (F : Fun G.K x qual st f fd) (S : FnScope N ps (defScope st)) (h : SimSs G k (Sc.of N (defScope st)) (defBody st) ms) : FnU G (k + 1) f fd ps (runF N.length ms) := by
  obtain ⟨oc, od, kV, doc, pm, an, cdv, ct, osl, rfl, lk, hcd⟩ := F.ex
  refine fn_of lk hcd S (fun vs H Q E h => h.1) fun A outer s H vs Q E hr hsp => ?_
  obtain ⟨hl, Z, φ, sto, ds, rs, r, po⟩ := hsp
  refine ⟨_, pss_wp, h _ (fun cls d _ H => E cls d H) ?_ Z φ (ds.map some ++ List.replicate (N.length - ds.length) none) sto _ H _ rs (start_rep N r) ?_⟩
  · exact { prog := rfl, w := rfl, K := rfl, mg := rfl, base := rfl, N := rfl, nd := S.nd, sc := rfl, fn := rfl, calm := rfl, room := hr, tk := L2N.takes_of rfl rfl rfl rfl, po := passes_of rfl, hs := rfl, hf := rfl }
  · unfold runF at po
    cases e : ms (ds.map some ++ List.replicate (N.length - ds.length) none) sto with
    | nx ρ s2 => rw [e] at po; exact fun φ' H' σ' x rs' _ => po φ' H' x rs' _ .non
    | rt d s2 => rw [e] at po; exact fun φ' H' v x rs' rv => po φ' H' x rs' v rv
    | er c d ρ s2 => rw [e] at po; exact fun φ' H' σ' A' dx v x rs' _ => po φ' H' A' dx v x rs'
    | bk ρ s2 => rw [e] at po; exact po.elim
    | ct ρ s2 => rw [e] at po; exact po.elim
    | no => rw [e] at po; exact po.elim
/-- a def of the module, as the head's facts tell it -/
structure DefAt (K : PySem.W.Frag) (x : Str) (st : Stmt) : Prop where
  ex : ∃ (f : Addr) (oc : Value) (od an : Option Addr) (osl : Array (Option Value)) (kV doc pm cdv ct : Value), PySem.W.nsIn K mainGlobals x = some (some (.ref f)) ∧
    K.lookup f = some ⟨oc, od, .func (PySem.W.fnOf x x (defArgs st) (defBody st) (defScope st) .none kV doc pm an cdv ct), osl⟩ ∧ PySem.W.codeIn K cdv x = true ∧ PySem.W.keepIn K (.ref f) = true
theorem Fn.of {x : Str} {st : Stmt} {N ps : List Str} {ms : MS} {h : Heap} (X : G.K.In h) (ns : h.Ns mainGlobals G.mg) (d : DefAt G.K x st) (S : FnScope N ps (defScope st))
    (hb : ∀ (kV doc pm : Value) (an : Option Addr) (cdv ct : Value) (us : List Value), us.length = ps.length → bindArgs (PySem.W.fnOf x x (defArgs st) (defBody st) (defScope st) .none kV doc pm an cdv ct) ⟨us, []⟩ = pure (ps.zip us))
    (hs : SimSs G k (Sc.of N (defScope st)) (defBody st) ms) : Fn G (k + 1) x ps.length (runF N.length ms) [] := by
  obtain ⟨f, oc, od, an, osl, kV, doc, pm, cdv, ct, a, l, c, kp⟩ := d.ex
  have F := fun_mk (st := st) l c kp
  exact ⟨f, _, ps, [], [], PySem.W.mg_of X ns a, kp, F.binds hb, .nil, fun _ _ _ => .nil, rfl, fn_body F S hs⟩

/-! ### a, b = x, y of local names: the pair is not laid -/
def sPar (is : List Nat) (r : M (List D)) : MS := fun ρ st => eb (r ρ st) ρ fun ds st => if ds.length = is.length then .nx ((is.zip ds).foldl (fun ρ p => ρ.set p.1 (some p.2)) ρ) st else .no
variable {Γ : Sc} {e a b c o : Expr} {es : List Expr} {pos p p1 p2 p3 pt apos cpos : Pos} {m ma mb mc : M D} {mt mu : M Bool} {ml : M (List D)}
theorem sim_par2 (i j : Nat) {x y : Str} {kt k2 : Nat} {pt2 : Pos} (h : SimA G k Γ [a, b] ml) (hij : i ≠ j := by decide) (hi : Γ.N[i]? = some x := by rfl) (hj : Γ.N[j]? = some y := by rfl) (hx : Γ.sc.names.lookup x = some .local := by rfl) (hy : Γ.sc.names.lookup y = some .local := by rfl)
    (hw : ∀ env : Env, env.scope = Γ.sc → swappedStores [.Tuple [.Name x p1, .Name y p2] kt pt] (.Tuple [a, b] k2 pt2) env = pure (some [x, y]) := by (intro env h; cases env; cases h; rfl))
    (hs : ∀ env : Env, env.scope = Γ.sc → swapsWithSole [.Tuple [.Name x p1, .Name y p2] kt pt] (.Tuple [a, b] k2 pt2) pos.line env = pure false := by (intro env h; cases env; cases h; rfl)) :
    SimS G k Γ (.Assign [.Tuple [.Name x p1, .Name y p2] kt pt] (.Tuple [a, b] k2 pt2) pos) (sPar [i, j] ml) := fun X W C Z φ ρ st σ H B rs re po =>
  wp_ps (ps_par (i := i) (j := j) C.calm (by rw [C.N]; exact C.nd) (by rw [C.N]; exact hi) (by rw [C.N]; exact hj) hij (by rw [C.sc]; exact hx) (by rw [C.sc]; exact hy) pa_wp (hw X.env C.sc) (hs X.env C.sc)) (h X W C.toCok Z φ ρ st σ H _ rs re (post.mono (postS.bnd re po) fun φ1 H1 ds st1 x1 rs1 p1 vs rvs => by
    split at p1
    · rename_i hl
      match ds, hl, rvs with
      | [d1, d2], _, rvs =>
        obtain ⟨v, u, rfl, r1, r2⟩ := rvs.two
        exact ⟨v, u, rfl, p1 φ1 H1 _ (Ext.refl _ _) rs1 (((re.ext x1).set r1 i).set r2 j)⟩
    · exact p1.elim))
theorem Reps.three {Z φ : List Addr} {H : Hp} {vs : List V} {d e f : D} (r : Reps G Z φ H vs [d, e, f]) : ∃ v u w, vs = [v, u, w] ∧ Rep G Z φ H v d ∧ Rep G Z φ H u e ∧ Rep G Z φ H w f := by
  cases r with
  | cons r t =>
    obtain ⟨u, w, rfl, r', r''⟩ := Reps.two t
    exact ⟨_, _, _, rfl, r, r', r''⟩
theorem sim_par3 (i j l : Nat) {x y z : Str} {kt k2 : Nat} {pt2 : Pos} (h : SimA G k Γ [a, b, c] ml) (hij : i ≠ j := by decide) (hil : i ≠ l := by decide) (hjl : j ≠ l := by decide) (hi : Γ.N[i]? = some x := by rfl) (hj : Γ.N[j]? = some y := by rfl) (hl : Γ.N[l]? = some z := by rfl)
    (hx : Γ.sc.names.lookup x = some .local := by rfl) (hy : Γ.sc.names.lookup y = some .local := by rfl) (hz : Γ.sc.names.lookup z = some .local := by rfl)
    (hw : ∀ env : Env, env.scope = Γ.sc → swappedStores [.Tuple [.Name x p1, .Name y p2, .Name z p3] kt pt] (.Tuple [a, b, c] k2 pt2) env = pure (some [x, y, z]) := by (intro env h; cases env; cases h; rfl))
    (hs : ∀ env : Env, env.scope = Γ.sc → swapsWithSole [.Tuple [.Name x p1, .Name y p2, .Name z p3] kt pt] (.Tuple [a, b, c] k2 pt2) pos.line env = pure false := by (intro env h; cases env; cases h; rfl)) :
    SimS G k Γ (.Assign [.Tuple [.Name x p1, .Name y p2, .Name z p3] kt pt] (.Tuple [a, b, c] k2 pt2) pos) (sPar [i, j, l] ml) := fun X W C Z φ ρ st σ H B rs re po =>
  wp_ps (ps_par3 (i := i) (j := j) (l := l) C.calm (by rw [C.N]; exact C.nd) (by rw [C.N]; exact hi) (by rw [C.N]; exact hj) (by rw [C.N]; exact hl) hij hil hjl (by rw [C.sc]; exact hx) (by rw [C.sc]; exact hy) (by rw [C.sc]; exact hz) pa_wp (hw X.env C.sc) (hs X.env C.sc)) (h X W C.toCok Z φ ρ st σ H _ rs re (post.mono (postS.bnd re po) fun φ1 H1 ds st1 x1 rs1 p1 vs rvs => by
    split at p1
    · rename_i hl
      match ds, hl, rvs with
      | [d1, d2, d3], _, rvs =>
        obtain ⟨v, u, w, rfl, r1, r2, r3⟩ := rvs.three
        exact ⟨v, u, w, rfl, p1 φ1 H1 _ (Ext.refl _ _) rs1 ((((re.ext x1).set r1 i).set r2 j).set r3 l)⟩
    · exact p1.elim))

/-! ### a constant of the module -/
structure ConAt (G : Gb) (x : Str) (d : D) : Prop where
  ex : ∃ u v, G.mg x = some u ∧ RelV v u ∧ ∀ Z φ H, Rep G Z φ H v d
theorem sim_con {x : Str} {d : D} (h : ConAt G x d) (hg : GlG Γ x := by rfl) (hd : (x == ("__debug__" : Str)) = false := by decide) : SimE G k Γ (.Name x p) (mC d) := fun X W C Z φ ρ st σ H Q rs re po => by
  obtain ⟨u, v, h1, h2, h3⟩ := h.ex
  exact wp_pe (pe_glob (C.gl hg) (by rw [C.mg]; exact h1) h2 hd) (po.ok rs _ (h3 Z φ H))
theorem con_int {x : Str} {i : Int} {t : Tok} {h : Heap} (X : G.K.In h) (ns : h.Ns mainGlobals G.mg) (a : PySem.W.nsIn G.K mainGlobals x = some (some (.int i t))) : ConAt G x (.int i) := ⟨_, .int i, PySem.W.mg_of X ns a, ⟨t, rfl⟩, fun _ _ _ => .int i⟩
theorem con_str {x : Str} {s : Str} {t : Tok} {h : Heap} (X : G.K.In h) (ns : h.Ns mainGlobals G.mg) (a : PySem.W.nsIn G.K mainGlobals x = some (some (.str s t))) : ConAt G x (.str s) := ⟨_, .str s, PySem.W.mg_of X ns a, ⟨t, rfl⟩, fun _ _ _ => .str s⟩

/-! ### list(range(..)) -/
def lrng (i j : Int) (st : Sto) : Res (List D) := if -(2 ^ 62) ≤ i ∧ i < 2 ^ 62 ∧ -(2 ^ 62) ≤ j ∧ j < 2 ^ 62 ∧ (j - i).toNat ≤ 2 ^ 24 then .ok (rngD i (j - i).toNat) st else .no
def asI : D → Sto → Res Int := fun d st => match d with
  | .int i => .ok i st
  | _ => .no
def mLr1 (m : M D) : M (List D) := fun ρ st => (m ρ st).bind fun d st => (asI d st).bind fun j st => lrng 0 j st
def mLr2 (m n : M D) : M (List D) := fun ρ st => (m ρ st).bind fun d st => (n ρ st).bind fun e st => (asI d st).bind fun i st => (asI e st).bind fun j st => lrng i j st
theorem reps_rng {Z φ : List Addr} {H : Hp} (a b : Int) : Reps G Z φ H (rgV a b) (rngD a (b - a).toNat) := by
  unfold rgV rngD
  generalize List.range (b - a).toNat = l
  induction l with
  | nil => exact .nil
  | cons x l ih => exact .cons (.int _) ih
theorem lrng_noer (i j : Int) (st : Sto) (c : Str) (d : D) (st' : Sto) : lrng i j st ≠ .er c d st' := by
  unfold lrng
  split <;> exact fun h => nomatch h
theorem bindF {α : Type} {Z φ : List Addr} {H : Hp} {Q : VK} {W : XK} {r : Res α} {f : α → Sto → Res (List D)} (h : (match r.bind f with
    | .ok ds st' => ∀ φ' H' a vs, Ext φ H φ' H' → H a = none → RS G (a :: Z) φ' st' H' → H' a = some (.lst vs) → Reps G (a :: Z) φ' H' vs ds → Q (.ref a) H'
    | .er c d st' => post G Z φ H (.er c d st' : Res D) (fun _ _ _ _ => True) W
    | .no => False)) : post G Z φ H r (fun φ1 H1 a st1 => RS G Z φ1 st1 H1 → (match f a st1 with
    | .ok ds st' => ∀ φ' H' a vs, Ext φ1 H1 φ' H' → H1 a = none → RS G (a :: Z) φ' st' H' → H' a = some (.lst vs) → Reps G (a :: Z) φ' H' vs ds → Q (.ref a) H'
    | .er c d st' => post G Z φ1 H1 (.er c d st' : Res D) (fun _ _ _ _ => True) W
    | .no => False)) W := by
  cases r with
  | ok a st1 =>
    intro φ1 H1 x1 rs1 _
    have h' : (match f a st1 with
    | .ok ds st' => ∀ φ' H' a vs, Ext φ H φ' H' → H a = none → RS G (a :: Z) φ' st' H' → H' a = some (.lst vs) → Reps G (a :: Z) φ' H' vs ds → Q (.ref a) H'
    | .er c d st' => post G Z φ H (.er c d st' : Res D) (fun _ _ _ _ => True) W
    | .no => False) := h
    cases e1 : f a st1 with
    | ok ds st2 =>
      rw [e1] at h'
      exact fun φ' H' a' vs y ha rs2 hl rp => h' φ' H' a' vs (x1.trans y) (hide_old x1 rs1 ha) rs2 hl rp
    | er c d st2 => rw [e1] at h'; exact post.ext x1 h'
    | no => rw [e1] at h'; exact h'
  | er c d st1 => exact h
  | no => exact h
theorem lrng_go {Z φ : List Addr} {H : Hp} {st : Sto} {i j : Int} {Q : VK} {W : XK} (rs : RS G Z φ st H) (h : (match lrng i j st with
    | .ok ds st' => ∀ φ' H' a vs, Ext φ H φ' H' → H a = none → RS G (a :: Z) φ' st' H' → H' a = some (.lst vs) → Reps G (a :: Z) φ' H' vs ds → Q (.ref a) H'
    | .er c d st' => post G Z φ H (.er c d st' : Res D) (fun _ _ _ _ => True) W
    | .no => False)) : RgOk i j ∧ ∀ q, H q = none → Q (.ref q) (upd H q (.lst (rgV i j))) := by
  unfold lrng at h
  by_cases hz : -(2 ^ 62) ≤ i ∧ i < 2 ^ 62 ∧ -(2 ^ 62) ≤ j ∧ j < 2 ^ 62 ∧ (j - i).toNat ≤ 2 ^ 24
  · rw [if_pos hz] at h
    exact ⟨hz, fun q hq => newF rs hq (reps_rng i j) h⟩
  · rw [if_neg hz] at h
    exact h.elim
theorem sim_lrng1 {x y : Str} {p2 q2 : Pos} (ha : SimE G k Γ a m) (hx : x = "list" := by rfl) (hy : y = "range" := by rfl) (hm : G.mg x = none) (hm2 : G.mg y = none) (hg : GlG Γ x := by rfl) (hg2 : GlG Γ y := by rfl)
    (na : ∀ env : Env, starEach [a] env = (false, eval a env) :: starEach [] env := by intro _; rfl)
    (nb : ∀ env : Env, starEach [.Call (.Name y p2) [a] [] q2] env = (false, eval (.Call (.Name y p2) [a] [] q2) env) :: starEach [] env := by intro _; rfl) :
    SimF G k Γ (.Call (.Name x p) [.Call (.Name y p2) [a] [] q2] [] pos) (mLr1 m) := fun X W C Z φ ρ st σ H Q rs re po => by
  subst hx hy
  refine wp_pe (pe_listRg C.calm (C.gl hg) (by rw [C.mg]; exact hm) (prg_1 (C.gl hg2) (by rw [C.mg]; exact hm2) pe_wp (na X.env)) (nb X.env)) ?_
  refine ha X W C Z φ ρ st σ H _ rs re (post.mono (bindF po) fun φ1 H1 d st1 x1 rs1 p1 v rv => ?_)
  have p2 := p1 rs1
  cases rv with
  | int j => exact ⟨j, rfl, lrng_go rs1 p2⟩
  | _ => exact (show False from p2).elim
theorem sim_lrng2 {x y : Str} {p2 q2 : Pos} (ha : SimE G k Γ a ma) (hb : SimE G k Γ b mb) (hx : x = "list" := by rfl) (hy : y = "range" := by rfl) (hm : G.mg x = none) (hm2 : G.mg y = none) (hg : GlG Γ x := by rfl) (hg2 : GlG Γ y := by rfl)
    (na : ∀ env : Env, starEach [a, b] env = (false, eval a env) :: starEach [b] env := by intro _; rfl) (na2 : ∀ env : Env, starEach [b] env = (false, eval b env) :: starEach [] env := by intro _; rfl)
    (hp : ∀ env : Env, (backTo q2 (starEach [b] env)).any (·.1) = false := by intro _; rfl)
    (nb : ∀ env : Env, starEach [.Call (.Name y p2) [a, b] [] q2] env = (false, eval (.Call (.Name y p2) [a, b] [] q2) env) :: starEach [] env := by intro _; rfl) :
    SimF G k Γ (.Call (.Name x p) [.Call (.Name y p2) [a, b] [] q2] [] pos) (mLr2 ma mb) := fun X W C Z φ ρ st σ H Q rs re po => by
  subst hx hy
  refine wp_pe (pe_listRg C.calm (C.gl hg) (by rw [C.mg]; exact hm) (prg_2 (C.gl hg2) (by rw [C.mg]; exact hm2) pe_wp pe_wp (na X.env) (na2 X.env) (hp X.env)) (nb X.env)) ?_
  refine ha X W C Z φ ρ st σ H _ rs re (post.mono (bindF po) fun φ1 H1 d st1 x1 rs1 p1 v rv => ?_)
  refine hb X W C Z φ1 ρ st1 σ H1 _ rs1 (re.ext x1) (post.mono (bindF (p1 rs1)) fun φ2 H2 e st2 x2 rs2 p2 u ru => ?_)
  have p3 := p2 rs2
  cases rv with
  | int i =>
    cases ru with
    | int j => exact ⟨i, j, rfl, rfl, lrng_go rs2 p3⟩
    | _ => exact (show False from p3).elim
  | _ => exact (show False from p3).elim
end

/-! ### the law's end -/
/-- the law's promise: a frozen script of 63 ints at most, and True -/
def spLaw (K : PySem.W.Frag) : Sp := fun vs H Q _ => ∃ (a : Addr) (ns : List Int), vs = [.ref a] ∧ Only H ∧ SqL K H a (ns.map V.int) ∧ ns.length ≤ 63 ∧ ∀ H', Q (.bl true) H'
theorem law_fn {G : Gb} {k : Nat} {x : Str} {f : List D → Sto → Res D} (F : Fn G k x 1 f []) (h : ∀ ns : List Int, ns.length ≤ 63 → ∃ st, f [.fls (ns.map .int)] [] = .ok (.bl true) st) :
    ∃ (fa : Addr) (fd : FuncData) (ps : List Str), G.mg x = some (.ref fa) ∧ ps.length = 1 ∧ FnOk G.P G.w G.K G.mg G.base (L2N.CX G.P G.w) k fa fd ps (spLaw G.K) := by
  obtain ⟨fa, fd, ps, ds, dvs, g1, g2, g3, g4, g5, g6, F⟩ := F.ex
  refine ⟨fa, fd, ps, g1, g6, F.imp fun vs H Q E q => ?_⟩
  obtain ⟨a, ns, rfl, only, hs, hl, q⟩ := q
  obtain ⟨st, e⟩ := h ns hl
  refine ⟨by rw [g6]; rfl, [], [], [], [.fls (ns.map .int)], ?_, .cons (.fls ?_ (reps_ints ns)) .nil, ?_⟩
  · exact ⟨rfl, List.nodup_nil, fun n c a e => by simp at e, fun a h => by simp at h⟩
  · rcases hs with (hs | hs) | hs
    · rcases only a with z | ⟨o, xs, z⟩
      · rw [hs] at z; cases z
      · rw [hs] at z; cases z
    · exact .inl ⟨hs, by simp⟩
    · exact .inr (.inr hs)
  · rw [e]
    intro φ' H' _ _ v rv
    cases rv
    exact q H'
end Kp

/-! # Kp, 11: own errors with «super().__init__(at); self.at = at»: made, raised -/
namespace Kx
open PySem PySem.W PySem.Calls PyProof.Rows
abbrev veM : List Value := [.type "ValueError", .type "Exception", .type "BaseException", .type "object"]
def exA (p1 p2 : Pos) : Arguments := { posonlyargs := [], args := [⟨"self", .none, p1⟩, ⟨"at", .none, p2⟩], vararg := .none, kwonlyargs := [], kw_defaults := [], kwarg := .none, defaults := [] }
def exB (q1 q2 q3 q4 q5 q6 q7 q8 q9 q0 : Pos) : List Stmt :=
  [.Expr (.Call (.Attribute (.Call (.Name "super" q1) [] [] q2) "__init__" q3) [.Name "at" q4] [] q5) q6, .Assign [.Attribute (.Name "self" q7) "at" q8] (.Name "at" q9) q0]
def exS : Scope := { kind := .function, names := [("self", .local), ("at", .local), ("__class__", .free), ("super", .globalImplicit)], isGenerator := false, isCoroutine := false, more := [] }
/-- the call of super().__init__, as a method's: by rfl where the places are written -/
def SupEq (q1 q2 q3 q4 q5 : Pos) : Prop := ∀ env : Env, eval (.Call (.Attribute (.Call (.Name "super" q1) [] [] q2) "__init__" q3) [.Name "at" q4] [] q5) env = (do
  let ov ← attributeBase (.Call (.Name "super" q1) [] [] q2) "__init__" env (eval (.Call (.Name "super" q1) [] [] q2) env)
  standAt q3.atName
  let (f, first) ← holding [ov] (getMethod ov "__init__" (do return (← importBound (.Call (.Name "super" q1) [] [] q2) env).getD true))
  callWith q5 f first (backTo q5 (starEach [.Name "at" q4] env)) [])
/-- what the written part tells of such a class, at C, and of its __init__, at fI -/
structure ExcC (K : Frag) (prog : Program) (C fI : Addr) (qual : Str) : Prop where
  ini : excInitIn K C veM "ValueError.__new__" = true
  hi : findIn K (.ref C) "__init__" = some (some (.ref fI))
  isF : isFn K (.ref fI) = true
  over : excOver K C veM = true
  st : findIn K (.ref C) "__setattr__" = some (some (.builtin "object.__setattr__"))
  tk : takerIn K C "at" = some none
  hd : hasDictIn K C = true
  sup : ks_superIn K C C "__init__" = some (some (.builtin "ValueError.__init__"))
  cls : (clsIn K C).isSome = true
  sub : subIn K (.ref C) (.type "ValueError") = some true
  own : mroIn K C (.ref C) = some true
  opq : nsIn K cStatics "thirdparty.any" = some none
  noS : (prog.main.scope.names.lookup ("super" : Str)).isSome = false
  fn : ∃ (oc : Value) (od : Option Addr) (doc pm : Value) (an : Option Addr) (cda cc : Addr) (ct : Value) (osl : Array (Option Value)) (p1 p2 q1 q2 q3 q4 q5 q6 q7 q8 q9 q0 : Pos) (ccl cl : Value) (cdd cld : Option Addr) (ccs csl : Array (Option Value)) (vs : Array Value) (file : Str) (tf : Tok),
    K.lookup fI = some ⟨oc, od, .func (ksFn "__init__" qual (exA p1 p2) (exB q1 q2 q3 q4 q5 q6 q7 q8 q9 q0) exS .none .none doc pm an (.ref cda) ct cc), osl⟩ ∧ codeIn K (.ref cda) qual = true ∧
      K.lookup cda = some ⟨ccl, cdd, .fields vs, ccs⟩ ∧ vs[2]? = some (.str file tf) ∧ ((prog.main.file : Str) == file) = true ∧ K.lookup cc = some ⟨cl, cld, .cell (some (.ref C)), csl⟩ ∧ SupEq q1 q2 q3 q4 q5
/-- what a made error leaves -/
structure Made (h h' : Heap) (e C d : Addr) (v : Value) : Prop where
  keep : ∀ b o, h.get? b = some o → h'.get? b = some o
  en : h.get? e = none
  dn : h.get? d = none
  ne : d ≠ e
  obj : ∃ t, h'.get? e = some (excObj C t (some d) .none)
  ns : h'.Ns1 d (fun y => if y = "at" then some v else none)
  fe : h.objs.size ≤ e
  fd : h.objs.size ≤ d
theorem one_ns {h : Heap} {dx : Addr} {n : Str} {hsh : Int} {tk : Tok} {v : Value} {c : Nat} (md : h.get? dx = some (dictOf [⟨hsh, .str n tk, v⟩] c)) : h.Ns1 dx (fun y => if y = n then some v else none) := by
  refine ⟨_, _, _, md, rfl, fun e he => ?_, List.pairwise_singleton _ _, fun name => ?_⟩
  · have e1 : e = ⟨hsh, .str n tk, v⟩ := by simpa using he
    exact ⟨n, tk, by rw [e1]⟩
  · unfold nsFind findBy
    by_cases z : name = n
    · subst z
      simp [Value.isStr]
    · have z' : ¬ n = name := fun q => z q.symm
      simp [Value.isStr, z, z']
theorem one_le (v : Value) : [v].length ≤ sizeLine := by rw [sizeLine_eq]; exact (by decide : 1 ≤ 16777216)
section
variable {prog : Program} {w : World} {A : Around} {E : Value → Shared → Prop} {R : Result → Shared → Prop} {K : Frag} {C fI : Addr} {qual : Str} {mg mb : Str → Option Value}
theorem gl_name {M : Model} {s : Shared} {env : Env} {x : Str} {u : Value} {Q : Value → Shared → Prop} (hk : env.scope.kind = .function) (hx : env.kindOf x = some .globalImplicit) (h : wpAny M A (loadGlobal env x) Q E s) : wpAny M A (loadName env x) Q E s := ks_loadName_global hk hx h
set_option maxHeartbeats 1000000 in
theorem made (T : ExcC K prog C fI qual) {hp : Heap} {g : Array GenState} {dr : Drawn} {tk : Nat} {os : OsState} {v : Value} (X : K.In hp) (hlim : hp.NoLimit) (hg : hp.Ns mainGlobals mg) (hb : hp.Ns builtinsNs mb) (ns : mg "super" = none) (bs : mb "super" = some (.type "super"))
    (hroom : A.depth + 1 < recursionLimit) (hq : ∀ h' tk' e d, Made hp h' e C d v → R (.ok (.ret (.ref e))) ⟨h', g, dr, tk', os⟩) : codeAny (model prog w) A (.call (.ref C) ⟨[v], []⟩) R ⟨hp, g, dr, tk, os⟩ := by
  obtain ⟨nm, N', qn, bas, bm, hdct, sn, sub, ab, col, dd, k0, k1, k2, k3, k5, hC, hT⟩ := excInit_of X T.ini
  obtain ⟨oc, od, doc, pm, an, cda, cc, ct, osl, p1, p2, q1, q2, q3, q4, q5, q6, q7, q8, q9, q0, ccl, cl, cdd, cld, ccs, csl, vs, file, tf, hfI, hcd, hcode, hvs, hfile, hcell, hse⟩ := T.fn
  obtain ⟨cd, hcls⟩ := Option.isSome_iff_exists.mp T.cls
  have k : ∀ b o, hp.get? b = some o → ((hp.push (kdv_tup [v])).push (HandSPX.excO C hp.objs.size)).get? b = some o := fun b o e => Heap.get?_push_of_some _ (Heap.get?_push_of_some _ e)
  have hget : ((hp.push (kdv_tup [v])).push (HandSPX.excO C hp.objs.size)).get? (hp.objs.size + 1) = some (HandSPX.excO C hp.objs.size) := by heap_get
  have htup : ((hp.push (kdv_tup [v])).push (HandSPX.excO C hp.objs.size)).get? hp.objs.size = some (kdv_tup [v]) := by heap_get
  have nohp : ∀ b, hp.objs.size ≤ b → hp.get? b = none := fun b hb => by
    cases q : hp.get? b with
    | none => rfl
    | some o => exact absurd (Heap.lt_size q) (Nat.not_lt_of_le hb)
  refine HandSPX.call_own F.excBase_ValueError hT hC (looks_findIn X T.hi) (fun self => bind_fn X self (beq_iff_eq.mp T.isF)) (one_le v) ?_
  refine ks_codeAny_call_defAt (fd := ksFn "__init__" qual (exA p1 p2) (exB q1 q2 q3 q4 q5 q6 q7 q8 q9 q0) exS .none .none doc pm an (.ref cda) ct cc) (body := exB q1 q2 q3 q4 q5 q6 q7 q8 q9 q0) (binds := [("self", .ref (hp.objs.size + 1)), ("at", v)]) ?_ (X.keeps k _ _ hfI) rfl (hlim.keeps k) (codeRec_of (X.keeps k) hcd) rfl
    (BindsTo.of_eq (by first | rfl | with_unfolding_all rfl)) (show ∀ x ∈ exS.names, x.2 ≠ .cell by decide) (by intro x hx; simp at hx; rcases hx with rfl | rfl <;> rfl) (fun h1 hns k1' => ?_) rfl rfl rfl
  · show A.depth + 1 < recursionLimit
    exact hroom
  have k1 : ∀ b o, hp.get? b = some o → h1.get? b = some o := fun b o e => k1' b o (k b o e)
  have hsz : ((hp.push (kdv_tup [v])).push (HandSPX.excO C hp.objs.size)).objs.size = hp.objs.size + 1 + 1 := by rw [Heap.size_push, Heap.size_push]
  rw [hsz] at hns ⊢
  have F1 : Fr hp (hp.objs.size + 1 + 1) h1 (fun x => ([(("self" : Str), Value.ref (hp.objs.size + 1)), ("at", v)]).reverse.lookup x) := ⟨hns, k1, by omega⟩
  have N1 : News hp (hp.objs.size + 1 + 1) h1 [(hp.objs.size + 1, excObj C hp.objs.size none .none), (hp.objs.size, excTup [v])] := fun p hp' => by
    rcases List.mem_cons.mp hp' with rfl | hp'
    · exact ⟨k1' _ _ hget, by show hp.objs.size + 1 ≠ hp.objs.size + 1 + 1; omega, nohp _ (by show hp.objs.size ≤ hp.objs.size + 1; omega)⟩
    · have e : p = (hp.objs.size, excTup [v]) := by simpa using hp'
      subst e
      exact ⟨k1' _ _ htup, by show hp.objs.size ≠ hp.objs.size + 1 + 1; omega, nohp _ (Nat.le_refl _)⟩
  have X1 : K.In h1 := X.keeps k1
  have I1 : InstAt h1 (hp.objs.size + 1) (excObj C hp.objs.size none .none) C none := InstAt.of_exc0 N1 (List.mem_cons_self)
  obtain ⟨oD, hD1, hD2⟩ : ∃ oD, h1.get? C = some oD ∧ oD.data = .cls cd := by
    unfold clsIn at hcls
    split at hcls
    · rename_i c d cd' sl ho
      cases hcls
      exact ⟨_, X1 _ _ ho, rfl⟩
    · cases hcls
  -- super().__init__(at)
  refine ks_wpAt_execs_cons (ks_wpAt_Expr_any (ks_wpAt_MethodCall ?_ (hse _)))
  · refine ks_wpAt_super_base (env := ksEnv qual exS (hp.objs.size + 1 + 1) fI (.ref cda) cc) rfl rfl (by decide) rfl (X1 _ _ hfI) rfl rfl rfl (X1 _ _ hcode) rfl hvs hfile T.noS ?_
    refine ks_loadName_global rfl rfl (loadGlobal_builtin (env := ksEnv qual exS (hp.objs.size + 1 + 1) fI (.ref cda) cc) (hg.keeps k1) ns (hb.keeps k1) bs ⟨rfl, ?_⟩)
    refine wpAny_loadName_free rfl rfl rfl ⟨_, X1 _ _ hcell, rfl⟩ ?_
    refine wpAny_loadName_local rfl rfl F1.ns (v := .ref (hp.objs.size + 1)) rfl ?_
    refine ks_wpAny_isType_cls hD1 hD2 ⟨rfl, ?_⟩
    refine ks_wpAny_call_super hD1 hD2 I1.at_ I1.cls (fun c e => nomatch e) (looks_mroIn X1 T.own) (fun h2 e2 k2 => ?_)
    obtain ⟨F2, N2, l2⟩ := ks_newsPush (s := ⟨h1, g, dr, tk + 2, os⟩) F1 N1 rfl e2 k2
    have I2 : InstAt h2 (hp.objs.size + 1) (excObj C hp.objs.size none .none) C none := InstAt.of_exc0 N2 (List.mem_cons_of_mem _ List.mem_cons_self)
    refine kxs_method (s := ⟨h2, g, dr, tk + 2, os⟩) kxs_ValueError F2 X N2 List.mem_cons_self I2 T.opq T.sup T.sub (by decide) (fun u h3 F3 N3 l3 => ?_)
    refine kxs_callWith1 (i := "ValueError.__init__") N3 List.mem_cons_self ?_
    have hx3 : h3.Ns (hp.objs.size + 1 + 1) (fun x => ([(("self" : Str), Value.ref (hp.objs.size + 1)), ("at", v)]).reverse.lookup x) := F3.ns
    refine Calls.spliced_cons (wpAny_Name (wpAny_loadName_local rfl rfl hx3 (v := v) rfl (Calls.spliced_nil ⟨kxs_at N3 List.mem_cons_self, ?_⟩)) (by decide))
    have n1 : u ≠ hp.objs.size + 1 := Nat.ne_of_gt (l3 _ (List.mem_cons_of_mem _ List.mem_cons_self))
    have n2 : h1.objs.size ≠ hp.objs.size + 1 := Nat.ne_of_gt (l2 _ List.mem_cons_self)
    have n3 : ∀ p ∈ [(hp.objs.size, excTup [v])], p.1 ≠ hp.objs.size + 1 := fun p hp' => by
      have e : p = (hp.objs.size, excTup [v]) := by simpa using hp'
      subst e
      show hp.objs.size ≠ hp.objs.size + 1
      omega
    refine kxs_call F3 X N3 F.excBase_ValueError T.ini List.mem_cons_self (.tail n1 (.tail n2 (.head n3))) (one_le v) (fun t4 h4 F4 N4 l4 => ?_)
    have n4 : t4 ≠ hp.objs.size + 1 := Nat.ne_of_gt (l4 _ (List.mem_cons_of_mem _ (List.mem_cons_of_mem _ List.mem_cons_self)))
    -- self.at = at
    refine ks_wpAt_execs_cons (wpAt_of_wpAny (plainObj_wpAny_Assign_Attribute ?_))
    have hx4 : h4.Ns (hp.objs.size + 1 + 1) (fun x => ([(("self" : Str), Value.ref (hp.objs.size + 1)), ("at", v)]).reverse.lookup x) := F4.ns
    refine wpAny_Name (wpAny_loadName_local rfl rfl hx4 (v := v) rfl ?_) (by decide)
    refine wpAny_Name (wpAny_loadName_local rfl rfl hx4 (v := .ref (hp.objs.size + 1)) rfl ?_) (by decide)
    refine set_exc0 F.store_ValueError F4 X N4 (List.mem_cons_of_mem _ (List.mem_cons_of_mem _ (List.mem_cons_of_mem _ List.mem_cons_self))) T.st T.over T.tk T.hd rfl (.tail n4 (.tail n1 (.tail n2 (.head n3)))) (show 1 ≤ 1000 by decide) (fun dx h5 F5 N5 l5 => ?_)
    show PySem.wpAt _ _ _ (execs [] _) _ _ _
    refine wpAt_of_wpAny (wpAny_execs_nil ?_)
    have md := N5 _ List.mem_cons_self
    have me := N5 _ (List.mem_cons_of_mem _ (List.mem_cons_of_mem _ (List.mem_cons_of_mem _ (List.mem_cons_of_mem _ List.mem_cons_self))))
    have ld : hp.objs.size + 1 < dx := l5 _ (List.mem_cons_of_mem _ (List.mem_cons_of_mem _ (List.mem_cons_of_mem _ List.mem_cons_self)))
    refine ⟨rfl, hq h5 _ (hp.objs.size + 1) dx ⟨F5.keep, me.2.2, md.2.2, Nat.ne_of_gt ld, ⟨_, me.1⟩, ?_, by omega, by omega⟩⟩
    exact one_ns md.1
end
end Kx

/-! # Kp, 12: raise, try .. except -/
namespace Kp
open PySem PySem.Spec L2
open PyProof.Rows hiding St

/-- an own error class of the module, as the head's facts tell it -/
structure Ex (G : Gb) (c : Str) : Prop where
  ex : ∃ (C fI : Addr) (qual : Str), G.mg c = some (.ref C) ∧ PySem.W.keepIn G.K (.ref C) = true ∧ Kx.ExcC G.K G.P C fI qual ∧ G.mg "super" = none ∧ PySem.W.subIn G.K (.ref C) (.type "BaseException") = some true ∧ PySem.W.typeIn G.K (.ref C) = some (.type "type") ∧
    XfC G.K C ∧ PySem.W.findIn G.K (.ref C) "at" = some none
theorem boot_super : bootBuiltins "super" = some (.type "super") := by decide +kernel
theorem relO_at {v : V} {v' : Value} (r : RelV v v') (f : Str) : RelO (List.lookup f [(("at" : Str), v)]) (if f = "at" then some v' else none) := by
  by_cases hw : f = "at"
  · subst hw
    rw [if_pos rfl]
    have q : List.lookup ("at" : Str) [(("at" : Str), v)] = some v := by simp [List.lookup]
    rw [q]
    exact r
  · rw [if_neg hw]
    have qw : (f == ("at" : Str)) = false := by simpa using hw
    have q2 : List.lookup f [(("at" : Str), v)] = none := by simp [List.lookup, qw]
    rw [q2]
    trivial
section
variable {G : Gb} {k : Nat} {Γ : Sc} {e a b c o : Expr} {es : List Expr} {pos p p2 apos cpos : Pos} {m ma mb mc : M D} {mt mu : M Bool} {ml : M (List D)} {ss : List Stmt} {ms : MS}
/-- C(e), to be raised -/
def tMkX (C : Addr) (te : TE) : L2.St → Hp → XK → Prop := fun σ H Q => te σ H fun v H1 => ∀ d, H1 d = none → Q (.ref C) (some d) (upd H1 d (.xd [(("at" : Str), v)]))
theorem pmk_x {X : Cx} {W : WX} (Ck : Cok G k Γ X W) {x : Str} (Xx : Ex G x) {te : TE} (ha : PE X a te) (hg : GlG Γ x) (hdb : (x == ("__debug__" : Str)) = false)
    (he : ∀ env : Env, starEach (a :: []) env = (false, eval a env) :: starEach [] env) (hpl : ∀ env : Env, (backTo pos (starEach [] env)).any (·.1) = false) :
    ∃ C, G.mg x = some (.ref C) ∧ L2N.PMk X (.Call (.Name x p) [a] [] pos) (tMkX C te) := by
  obtain ⟨C, fI, qual, g1, g2, T, g4, g5, g6, _, _⟩ := Xx.ex
  refine ⟨C, g1, fun pins s σ H Q I h => ?_⟩
  refine wpAny_Call_Name_kw (ld_glob I (Ck.gl hg) (by rw [Ck.mg]; exact g1) ?_ hdb)
  refine PySem.W.callWith_K (h₀ := X.base) I.ok.mod.kin (by rw [Ck.K]; exact g2) (thn ((pa_cons ha pa_nil (he X.env)).run pos pins s σ H _ I (show L2.tCons te L2.tNil σ H (fun vs H1 => ∃ v, vs = [v] ∧ ∀ d, H1 d = none → Q (.ref C) (some d) (upd H1 d (.xd [(("at" : Str), v)]))) from ?_)) fun us s1 hh => ?_) (he X.env) (hpl X.env)
  · have h' : te σ H fun v H1 => ∀ d, H1 d = none → Q (.ref C) (some d) (upd H1 d (.xd [(("at" : Str), v)])) := h
    show te σ H fun x H1 => L2.tNil σ H1 fun xs H2 => ∃ v, x :: xs = [v] ∧ ∀ d, H2 d = none → Q (.ref C) (some d) (upd H2 d (.xd [(("at" : Str), v)]))
    have e1 : (fun x H1 => L2.tNil σ H1 fun xs H2 => ∃ v, x :: xs = [v] ∧ ∀ d, H2 d = none → Q (.ref C) (some d) (upd H2 d (.xd [(("at" : Str), v)]))) = fun v H1 => ∀ d, H1 d = none → Q (.ref C) (some d) (upd H1 d (.xd [(("at" : Str), v)])) := by
      funext x H1
      refine propext ⟨fun ⟨v, e, q⟩ => ?_, fun q => ⟨x, rfl, q⟩⟩
      cases e
      exact q
    rw [e1]
    exact h'
  · obtain ⟨vs, H1, I1, r1, v, ev, q1⟩ := hh
    subst ev
    refine ⟨I1.kIn, ?_⟩
    cases r1 with
    | cons rv rn =>
      rename_i v' us'
      cases rn
      show wpAny _ _ (call (.ref C) [v']) _ _ _
      have hlim := I1.nolimit
      obtain ⟨mb, hb1, hb2⟩ := I1.mod.blt
      have hgl : s1.heap.Ns mainGlobals X.mg := I1.mod.glob.keeps I1.bk
      have hbl : s1.heap.Ns builtinsNs mb := hb1.keeps I1.bk
      have hK : G.K.In s1.heap := by rw [← Ck.K]; exact I1.kIn
      obtain ⟨hp, g, dr, tk, os⟩ := s1
      rw [Ck.prog]
      refine wpAny_call (Kx.made T hK hlim hgl hbl (by rw [Ck.mg]; exact g4) ((hb2 _ (by decide)).trans boot_super) (by have := Ck.room.dp; omega) fun h' tk' e d M => ?_)
      show L2N.MkP X pins σ Q (.ref e) ⟨h', g, dr, tk', os⟩
      obtain ⟨t, hoe⟩ := M.obj
      obtain ⟨G', q1', q2'⟩ := restrict h' fun b => decide (b ≠ e)
      have gk : ∀ b, b ≠ e → G'.get? b = h'.get? b := fun b hb => q1' b (decide_eq_true hb)
      have ge : G'.get? e = none := q2' e (by simp)
      have old : ∀ b o, hp.get? b = some o → G'.get? b = some o := fun b o q => (gk b (fun z => by rw [z, M.en] at q; cases q)).trans (M.keep b o q)
      have ob : ObjOk X.prog X.w (upd H1 d (.xd [(("at" : Str), v)])) G' d (.xd [(("at" : Str), v)]) := ⟨_, M.ns.at (fun o q => (gk d M.ne).trans q), fun f => relO_at rv f⟩
      have J : Inv X pins σ (upd H1 d (.xd [(("at" : Str), v)])) ⟨G', g, dr, tk', os⟩ := I1.laid (t' := tk') old M.fd ob
      refine ⟨e, _, _, ⟨G', g, dr, tk', os⟩, _, .ref C, some d, rfl, J, fun b o q => ?_, ge, hoe, ⟨rfl, rfl, fun vs q => ?_⟩, rfl, rfl, ?_, rfl, I1.bare, raises_own (by rw [Ck.K]; exact g5) (by rw [Ck.K]; exact g6), q1 d (I1.hok.fresh M.fd)⟩
      · by_cases hb : b = e
        · have q' : G'.get? b = some o := q
          rw [hb, ge] at q'; cases q'
        · exact (gk b hb).symm.trans q
      · cases q
        rfl
      · rw [upd_ne (Ne.symm M.ne)]
        exact I1.hok.fresh M.fe
def sRaise (c : Str) (m : M D) : MS := fun ρ st => eb (m ρ st) ρ fun d st => .er c d ρ st
theorem sim_raise {x : Str} (Xx : Ex G x) (h : SimE G k Γ a m) (hg : GlG Γ x := by rfl) (hdb : (x == ("__debug__" : Str)) = false := by decide)
    (he : ∀ env : Env, starEach (a :: []) env = (false, eval a env) :: starEach [] env := by intro _; rfl) (hpl : ∀ env : Env, (backTo pos (starEach [] env)).any (·.1) = false := by intro _; rfl) :
    SimS G k Γ (.Raise (some (.Call (.Name x p) [a] [] pos)) none p2) (sRaise x m) := fun X W C Z φ ρ st σ H B rs re po => by
  obtain ⟨Ca, gC, P⟩ := pmk_x (p := p) (pos := pos) C.toCok Xx (pe_wp (X := X) (e := a)) hg hdb he hpl
  refine wp_ps (L2N.ps_raise C.calm C.tk P) ?_
  refine h X W C.toCok Z φ ρ st σ H _ rs re (post.mono (postS.bnd re po) fun φ1 H1 d st1 x1 rs1 p1 v rv dx hdx => ?_)
  exact p1 φ1 _ σ Ca dx v (Ext.new hdx) (rs1.new hdx) ((re.ext x1).ext (Ext.new hdx)) gC upd_same (rv.ext (Ext.new hdx))

/-! ### try: .. except C as n: suite -/
/-- a suite that does what msu says: c the error's class, d what it tells; i the slot of its name -/
def SimSu (G : Gb) (k : Nat) (Γ : Sc) (i : Option Nat) (ss : List Stmt) (msu : Str → D → MS) : Prop := ∀ X W, CokS G k Γ X W → ∀ (a : Addr) (oe : Obj) (cls : Value) (d : Option Addr) (pn : List (Addr × Obj)), L2N.Zn cls d oe → (∃ vs, oe.data = .fields vs) →
  ∀ Z φ ρ st σ H B c A dx v dd, RS G Z φ st H → RepEn G Z φ H σ ρ → G.mg c = some (.ref A) → cls = .ref A → d = some dx → H dx = some (.xd [("at", v)]) → Rep G Z φ H v dd → H a = none →
  postS G Z φ H (msu c dd ρ st) B WF → wpSs (X.suite a ((a, oe) :: pn)) ss B (match i with | some i => σ.set i (some (.ref a)) | none => σ) H
/-- which classes a clause catches -/
structure Cat (G : Gb) (cn : Str) (cm : Str → Option Bool) : Prop where
  ex : ∃ C, G.mg cn = some (.ref C) ∧ ∀ c b A, cm c = some b → G.mg c = some (.ref A) → PySem.W.exmOne G.K (.ref A) (.ref C) = some b
def unset (i : Nat) : SRes → SRes
  | .nx ρ st => .nx (ρ.set i none) st
  | .bk ρ st => .bk (ρ.set i none) st
  | .ct ρ st => .ct (ρ.set i none) st
  | r => r
def sTryAs (cm : Str → Option Bool) (i : Nat) (body : MS) (msu : Str → D → MS) : MS := fun ρ st => match body ρ st with
  | .er c d ρ1 st1 => match cm c with
    | some true => unset i (msu c d ρ1 st1)
    | some false => .er c d ρ1 st1
    | none => .no
  | r => r
theorem RepEn.unset {Z φ : List Addr} {H : Hp} {σ : L2.St} {ρ : En} (re : RepEn G Z φ H σ ρ) (i : Nat) : RepEn G Z φ H (σ.set i none) (ρ.set i none) := by
  refine ⟨by rw [List.length_set, List.length_set]; exact re.1, fun j d' h => ?_⟩
  by_cases hij : i = j
  · subst hij
    by_cases hl : i < ρ.length
    · rw [List.getElem?_set_self hl] at h; cases h
    · rw [List.getElem?_eq_none (by simpa using hl)] at h; cases h
  · rw [List.getElem?_set_ne hij] at h ⊢
    exact re.2 j d' h
theorem unset_post {Z φ : List Addr} {H : Hp} {r : SRes} {B : Ends} {W : WX} {i : Nat} (h : postS G Z φ H (unset i r) B W) (hn : ∀ c d ρ st, r ≠ .er c d ρ st) :
    postS G Z φ H r { nx := fun σ' H' => B.nx (σ'.set i none) H', rt := B.rt, bk := fun σ' H' => B.bk (σ'.set i none) H', ct := fun σ' H' => B.ct (σ'.set i none) H' } WF := by
  cases r with
  | nx ρ st => exact fun φ' H' σ' x rs re => h φ' H' _ x rs (re.unset i)
  | bk ρ st => exact fun φ' H' σ' x rs re => h φ' H' _ x rs (re.unset i)
  | ct ρ st => exact fun φ' H' σ' x rs re => h φ' H' _ x rs (re.unset i)
  | rt d st => exact h
  | er c d ρ st => exact absurd rfl (hn _ _ _ _)
  | no => exact h
theorem sim_tryas {cn n : Str} {cm : Str → Option Bool} {body suite : List Stmt} {b0 : Stmt} {np pos' : Pos} {msu : Str → D → MS} (i : Nat) (Ct : Cat G cn cm) (hb : SimSs G k Γ body ms) (hsu : SimSu G k Γ (some i) (b0 :: suite) msu) (hno : ∀ c d ρ st c' d' ρ' st', msu c d ρ st ≠ .er c' d' ρ' st')
    (hi : Γ.N[i]? = some n := by rfl) (hl : Γ.sc.names.lookup n = some .local := by rfl) (hg : GlG Γ cn := by rfl) (hdb : (cn == ("__debug__" : Str)) = false := by decide) :
    SimS G k Γ (.Try body [.ExceptHandler (some (.Name cn np)) (some n) (b0 :: suite) pos'] [] [] pos) (sTryAs cm i ms msu) := fun X W C Z φ ρ st σ H B rs re po => by
  obtain ⟨Ca, gC, hm⟩ := Ct.ex
  refine wp_ps (L2N.ps_try_as (i := i) (c := .ref Ca) (tb := fun W' D σ H => ∀ pn xe, L2N.Takes (X.tr pn xe) W' → PassesOwn (model X.prog X.w) X.A X.env xe → wpSs (X.tr pn xe) body D σ H)
    (ts := fun a cls d D σ H => ∀ oe pn, L2N.Zn cls d oe → (∃ vs, oe.data = .fields vs) → wpSs (X.suite a ((a, oe) :: pn)) (b0 :: suite) D σ H) C.hs C.hf (by rw [C.N]; exact C.nd) (by rw [C.N]; exact hi) (by show X.env.scope.names.lookup n = _; rw [C.sc]; exact hl)
    ⟨C.toCok.gl hg, hdb, .inl (by rw [C.mg]; exact gC)⟩ C.tk (fun W' pn xe tk pw => ⟨fun pins s σ H D I h => h pn xe tk pw pins s I⟩) (fun a oe cls d pn hz hf => ⟨fun pins s σ H D I h => h oe pn hz hf pins s I⟩)) ?_
  intro pn xe tk pw
  have C2 : CokS G k Γ (X.tr pn xe) (wAs X.K (.ref Ca) i (fun a cls d D σ H => ∀ oe pn, L2N.Zn cls d oe → (∃ vs, oe.data = .fields vs) → wpSs (X.suite a ((a, oe) :: pn)) (b0 :: suite) D σ H) W B) :=
    { prog := C.prog, w := C.w, K := C.K, mg := C.mg, base := C.base, N := C.N, nd := C.nd, sc := C.sc, fn := C.fn, calm := C.calm, room := C.room, tk := tk, po := pw, hs := C.hs, hf := C.hf }
  refine hb _ _ C2 Z φ ρ st σ H B rs re ?_
  unfold sTryAs at po
  cases e1 : ms ρ st with
  | nx ρ1 st1 => rw [e1] at po; exact po
  | bk ρ1 st1 => rw [e1] at po; exact po
  | ct ρ1 st1 => rw [e1] at po; exact po
  | rt d st1 => rw [e1] at po; exact po
  | no => rw [e1] at po; exact po
  | er c d ρ1 st1 =>
    rw [e1] at po
    dsimp only at po
    intro φ' H' σ' A dx v x rs' re' g1 g2 rv
    cases e2 : cm c with
    | none => rw [e2] at po; exact po.elim
    | some bb =>
      rw [e2] at po
      refine ⟨bb, by rw [C.K]; exact hm c bb A e2 g1, fun hb1 a ha oe pn2 hz hf => ?_, fun hb1 => ?_⟩
      · subst hb1
        have p2 : postS G Z φ H (unset i (msu c d ρ1 st1)) B W := po
        exact hsu X W C a oe _ _ pn2 hz hf Z φ' ρ1 st1 σ' H' _ c A dx v d rs' re' g1 rfl rfl g2 rv ha (unset_post (p2.ext x) (hno c d ρ1 st1))
      · subst hb1
        exact po φ' H' σ' A dx v x rs' re' g1 g2 rv
end
end Kp

/-! # Kp, 13: except suites -/
namespace Kp
open PySem PySem.Spec L2
open PyProof.Rows hiding St

/-! ### value and due of the law's helper, both texts, within an except suite -/
section
variable {X : Cx} {x y : Str} {pos p1 p2 p3 p4 p5 p6 p7 p8 p9 : Pos} {j : Nat}
/-- x is None, x is a text -/
theorem pt_w {e : Expr} {t : TT} (h : PW X e t) : PT X e t := ⟨fun pins s σ H Q I q => h.run _ pins s σ H Q I q⟩
theorem pt_isnon {i : Nat} (hN : X.N[i]? = some x) (hv : Vis X.env.scope x) (hd : (x == ("__debug__" : Str)) = false) (hcd : (x == ("__classdict__" : Str)) = false) :
    PT X (.Compare (.Name x p1) [.Is] [.Constant .none j p2] pos) (fun σ H Q => ∃ t, σ[i]? = some (some (.str t)) ∧ Q false H) := by
  refine ⟨fun pins s σ H Q I h => ?_⟩
  refine (pt_cmpR (r := rWp X (compareOp .Is)) or_wp (pe_var hN hv hd hcd) pe_non (nomark _)).run pins s σ H Q I ?_
  obtain ⟨t, h1, h2⟩ := h
  refine ⟨.str t, h1, fun pins s σ v u I q1 q2 => ?_⟩
  cases q2
  obtain ⟨tk, rfl⟩ := q1
  exact PyProof.Rows.is_none_gen ⟨.bl false, H, I, rfl, ⟨false, rfl, h2⟩⟩
theorem pt_isbl {i : Nat} {b : Bool} (hN : X.N[i]? = some x) (hv : Vis X.env.scope x) (hd : (x == ("__debug__" : Str)) = false) (hcd : (x == ("__classdict__" : Str)) = false) :
    PT X (.Compare (.Name x p1) [.Is] [.Constant (.bool b) j p2] pos) (fun σ H Q => ∃ t, σ[i]? = some (some (.str t)) ∧ Q false H) := by
  refine ⟨fun pins s σ H Q I h => ?_⟩
  refine (pt_cmpR (r := rWp X (compareOp .Is)) or_wp (pe_var hN hv hd hcd) pe_bl (nomark _)).run pins s σ H Q I ?_
  obtain ⟨t, h1, h2⟩ := h
  refine ⟨.str t, h1, fun pins s σ v u I q1 q2 => ?_⟩
  cases q2
  obtain ⟨h3, h4⟩ := RelV.isB (b := b) q1
  exact wpAny_is_plain h3 ⟨.bl false, H, I, by rw [h4]; rfl, ⟨false, rfl, h2⟩⟩
theorem pe_isstr {i : Nat} (hN : X.N[i]? = some x) (hv : Vis X.env.scope x) (hd : (x == ("__debug__" : Str)) = false) (hcd : (x == ("__classdict__" : Str)) = false) (g1 : Gl X "isinstance") (g2 : Gl X "str") (m1 : X.mg "isinstance" = none) (m2 : X.mg "str" = none) :
    PE X (.Call (.Name "isinstance" p1) [.Name x p2, .Name "str" p3] [] pos) (fun σ H Q => ∃ t, σ[i]? = some (some (.str t)) ∧ Q (.bl true) H) := by
  refine ⟨fun pins s σ H Q I h => ?_⟩
  refine (pe_callB call_isi g1 m1 (by decide +kernel) (pa_cons (pe_var hN hv hd hcd) (pa_cons (pe_bltn (v := .ty "str") g2 m2 (by decide +kernel) rfl (by decide) (by decide)) pa_nil)) (by decide) (by decide)).run pins s σ H Q I ?_
  obtain ⟨t, h1, h2⟩ := h
  exact ⟨.str t, h1, .str t, .ty "str", .type "str", .type "str", true, rfl, .ty "str", .base (.str t), kit_ty (subT_ok "str" (by decide) "str" (by decide)), h2⟩
end
/-- two texts, compared -/
def spH : Sp := fun vs H Q _ => ∃ s t, vs = [V.str s, V.str t] ∧ SeqAt.shaped (.str s) = true ∧ SeqAt.shaped (.str t) = true ∧ Q (.bl (s == t)) H
structure SameH (G : Gb) (k : Nat) (x : Str) : Prop where
  ex : ∃ (fa : Addr) (fd : FuncData) (ps : List Str), G.mg x = some (.ref fa) ∧ PySem.W.keepIn G.K (.ref fa) = true ∧ Binds G.K fd ps [] ∧ L2H.FnH G.P G.w G.K G.mg G.base (L2N.CX G.P G.w) k fa fd ps spH
theorem FnH.mono {P : Program} {w : World} {K : PySem.W.Frag} {mg : Str → Option Value} {base : Heap} {CX : CXT} {j k : Nat} {f : Addr} {fd : FuncData} {ps : List Str} {sp : Sp} (F : L2H.FnH P w K mg base CX j f fd ps sp) (h : j ≤ k) : L2H.FnH P w K mg base CX k f fd ps sp :=
  ⟨F.len, fun A outer s H args us vs Q E p hr => F.run A outer s H args us vs Q E p (hr.mono h)⟩
theorem SameH.mono {G : Gb} {j k : Nat} {x : Str} (h : SameH G j x) (l : j ≤ k) : SameH G k x := by
  obtain ⟨fa, fd, ps, a, b, c, F⟩ := h.ex
  exact ⟨fa, fd, ps, a, b, c, FnH.mono F l⟩
theorem SameH.of {G : Gb} {x : Str} {st : Stmt} {N : List Str} {h : Heap} (X : G.K.In h) (ns : h.Ns mainGlobals G.mg) (d : DefAt G.K x st) (S : FnScope N ([("value" : Str), "due"]) (defScope st))
    (hb : ∀ (kV doc pm : Value) (an : Option Addr) (cdv ct : Value) (us : List Value), us.length = 2 → bindArgs (PySem.W.fnOf x x (defArgs st) (defBody st) (defScope st) .none kV doc pm an cdv ct) ⟨us, []⟩ = pure (([("value" : Str), "due"]).zip us))
    (m1 : G.mg "isinstance" = none) (m2 : G.mg "str" = none)
    {b1 rest : List Stmt} {j1 j2 j3 : Nat} {q1 q2 q3 q4 q5 q6 q7 q8 q9 r1 r2 r3 r4 r5 t1 t2 t3 t4 t5 t6 t7 t8 t9 z1 z2 : Pos}
    (hB : defBody st = .If (.BoolOp .Or [.Compare (.Name "due" q1) [.Is] [.Constant .none j1 q2] q3, .Compare (.Name "due" q4) [.Is] [.Constant (.bool true) j2 q5] q6, .Compare (.Name "due" q7) [.Is] [.Constant (.bool false) j3 q8] q9] z1) b1 [] z2 ::
      .If (.Call (.Name "isinstance" r1) [.Name "due" r2, .Name "str" r3] [] r4) [.Return (some (.BoolOp .And [.Call (.Name "isinstance" t1) [.Name "value" t2, .Name "str" t3] [] t4, .Compare (.Name "value" t5) [.Eq] [.Name "due" t6] t7] t8)) t9] [] r5 :: rest)
    (hN0 : N[0]? = some ("value" : Str) := by rfl) (hN1 : N[1]? = some ("due" : Str) := by rfl) (v0 : Vis (defScope st) "value" := by first | exact Or.inl rfl | exact Or.inr (Or.inl rfl) | exact Or.inr (Or.inr rfl)) (v1 : Vis (defScope st) "due" := by first | exact Or.inl rfl | exact Or.inr (Or.inl rfl) | exact Or.inr (Or.inr rfl))
    (g1 : (defScope st).names.lookup ("isinstance" : Str) = some .globalImplicit := by rfl) (g2 : (defScope st).names.lookup ("str" : Str) = some .globalImplicit := by rfl) : SameH G 1 x := by
  obtain ⟨f, oc, od, an, osl, kV, doc, pm, cdv, ct, a, l, c, kp⟩ := d.ex
  have F := fun_mk (st := st) l c kp
  refine ⟨f, _, ([("value" : Str), "due"]), PySem.W.mg_of X ns a, kp, F.binds hb, L2H.fn_ofH l c S (fun vs H Q E h => ?_) fun A outer s H vs Q E p hot hr hsp => ?_⟩
  · obtain ⟨s, t, rfl, _⟩ := h
    rfl
  · obtain ⟨s', t', rfl, hs1, hs2, hq⟩ := hsp
    have hrun : ∀ (Y : Cx), Y.N = N → Y.env.scope = defScope st → Y.mg = G.mg → Y.K = G.K → Y.A.units + 64 < cLine → ∀ σ : L2.St, σ[0]? = some (some (.str s')) → σ[1]? = some (some (.str t')) → ∃ t, PSs Y (defBody st) t ∧ t { nx := fun _ H' => Q .non H', rt := Q } σ H := by
      intro Y hYN hYs hYm hYK hYu σ e0 e1
      have n0 : Y.N[0]? = some ("value" : Str) := by rw [hYN]; exact hN0
      have n1 : Y.N[1]? = some ("due" : Str) := by rw [hYN]; exact hN1
      have w0 : Vis Y.env.scope "value" := by rw [hYs]; exact v0
      have w1 : Vis Y.env.scope "due" := by rw [hYs]; exact v1
      have k1 : Gl Y "isinstance" := by show Y.env.scope.names.lookup _ = _; rw [hYs]; exact g1
      have k2 : Gl Y "str" := by show Y.env.scope.names.lookup _ = _; rw [hYs]; exact g2
      have l1 : Y.mg "isinstance" = none := by rw [hYm]; exact m1
      have l2 : Y.mg "str" = none := by rw [hYm]; exact m2
      rw [hB]
      have D1 := pw_or (pos := z1) (pt_isnon (p1 := q1) (p2 := q2) (pos := q3) (j := j1) n1 w1 (by decide) (by decide)) (pw_or (pos := z1) (pt_isbl (p1 := q4) (p2 := q5) (pos := q6) (j := j2) (b := true) n1 w1 (by decide) (by decide)) (pw_or1 (pos := z1) (pt_isbl (p1 := q7) (p2 := q8) (pos := q9) (j := j3) (b := false) n1 w1 (by decide) (by decide))))
      have D2 := pe_isstr (p1 := r1) (p2 := r2) (p3 := r3) (pos := r4) n1 w1 (by decide) (by decide) k1 k2 l1 l2
      have D3 := pe_isstr (p1 := t1) (p2 := t2) (p3 := t3) (pos := t4) n0 w0 (by decide) (by decide) k1 k2 l1 l2
      have D4 : PE Y (.Compare (.Name "value" t5) [.Eq] [.Name "due" t6] t7) _ := pe_cmpR (op_eqD hYu) (pe_var n0 w0 (by decide) (by decide)) (pe_var n1 w1 (by decide) (by decide)) (nomark _)
      have B := pss_cons (ps_if (pos := z2) (b := []) (pt_w D1) (pss_wp (X := Y) (s := b1)) pss_nil) (pss_cons (ps_if (pos := r5) (b := []) (pt_val D2) (pss_one (ps_ret (pos := t9) (pe_and (pos := t8) D3 (pe_one D4)))) pss_nil) (pss_wp (X := Y) (s := rest)))
      refine ⟨_, B, ?_⟩
      refine ⟨t', e1, t', e1, t', e1, t', e1, true, rfl, s', e0, true, rfl, .str s', e0, .str t', e1, .str s', .str t', .str _, .str _, hs1, hs2, ?_⟩
      have e : PyData.eqv (.str s') (.str t') = (s' == t') := by unfold PyData.eqv; rfl
      rw [e]
      exact hq
    exact hrun _ rfl rfl rfl rfl (by have := hr.un; show (A.deeper _).units + 64 < cLine; omega) _ rfl rfl
end Kp

/-! # Kp, 14: what except suites do -/
namespace Kp
open PySem PySem.Spec L2
open PyProof.Rows hiding St

theorem RS.notxd {G : Gb} {Z φ : List Addr} {st : Sto} {H : Hp} {q : Addr} {fs : List (Str × V)} (rs : RS G Z φ st H) (h : H q = some (.xd fs)) : q ∉ φ := fun z => by
  obtain ⟨n, hn, e⟩ := List.mem_iff_getElem.mp z
  have hs : n < st.length := by rw [← rs.len]; exact hn
  have r := rs.cells n st[n] q (List.getElem?_eq_getElem hs) (by rw [List.getElem?_eq_getElem hn, e])
  unfold RepC at r
  split at r
  · obtain ⟨o, u, e2, _⟩ := r
    rw [h] at e2; cases e2
  · obtain ⟨u, e2, r2⟩ := r
    rw [h] at e2
    cases e2
    unfold RepO' at r2
    split at r2 <;> first | exact r2 | (rename_i e; cases e) | (rename_i e _; cases e) | (cases r2)
/-- what stands fast in an except suite: the error at the place a -/
structure InX (G : Gb) (cs : List Str) (X : Cx) (a : Addr) (oe : Obj) (c : Str) (A dx : Addr) : Prop where
  hz : L2N.Zn (.ref A) (some dx) oe
  hf : ∃ vs, oe.data = .fields vs
  mc : G.mg c = some (.ref A)
section
variable (G : Gb) (k : Nat) (Γ : Sc) (i : Nat)
def SimX (e : Expr) (m : Str → D → M D) : Prop := ∀ X W, CokS G k Γ X W → ∀ a oe pn c A dx dd v, L2N.Zn (.ref A) (some dx) oe → (∃ vs, oe.data = .fields vs) → G.mg c = some (.ref A) → ∀ Z φ ρ st σ H Q, RS G Z φ st H → RepEn G Z φ H σ ρ → σ[i]? = some (some (.ref a)) →
  H dx = some (.xd [("at", v)]) → Rep G Z φ H v dd → post G Z φ H (m c dd ρ st) (fun φ' H' d _ => ∀ v, Rep G Z φ' H' v d → Q v H') (fun _ _ _ => False) → wpE (X.suite a ((a, oe) :: pn)) e σ H Q
def SimXA (es : List Expr) (m : Str → D → M (List D)) : Prop := ∀ X W, CokS G k Γ X W → ∀ a oe pn c A dx dd v, L2N.Zn (.ref A) (some dx) oe → (∃ vs, oe.data = .fields vs) → G.mg c = some (.ref A) → ∀ Z φ ρ st σ H Q, RS G Z φ st H → RepEn G Z φ H σ ρ → σ[i]? = some (some (.ref a)) →
  H dx = some (.xd [("at", v)]) → Rep G Z φ H v dd → post G Z φ H (m c dd ρ st) (fun φ' H' ds _ => ∀ vs, Reps G Z φ' H' vs ds → Q vs H') (fun _ _ _ => False) → wpA (X.suite a ((a, oe) :: pn)) es σ H Q
end
section
variable {G : Gb} {k i : Nat} {Γ : Sc} {e a b c o : Expr} {es : List Expr} {pos p p2 apos cpos : Pos} {m ma mb mc : Str → D → M D} {ml : Str → D → M (List D)} {ss : List Stmt} {cs : List Str} {n : Str}
theorem sx_str {x : Str} {j : Nat} : SimX G k Γ i (.Constant (.str x) j pos) (fun _ _ => mC (.str x)) := fun X W C a oe pn c A dx dd v hz hf mc Z φ ρ st σ H Q rs re hi hd rv po => wp_pe pe_str (po.ok rs _ (.str x))
theorem sx_non {j : Nat} : SimX G k Γ i (.Constant .none j pos) (fun _ _ => mC .non) := fun X W C a oe pn c A dx dd v hz hf mc Z φ ρ st σ H Q rs re hi hd rv po => wp_pe pe_non (po.ok rs _ .non)
theorem sx_bl {x : Bool} {j : Nat} : SimX G k Γ i (.Constant (.bool x) j pos) (fun _ _ => mC (.bl x)) := fun X W C a oe pn c A dx dd v hz hf mc Z φ ρ st σ H Q rs re hi hd rv po => wp_pe pe_bl (po.ok rs _ (.bl x))
theorem sx_var (l : Nat) {x : Str} (hN : Γ.N[l]? = some x := by rfl) (hv : Vis Γ.sc x := by first | exact Or.inl rfl | exact Or.inr (Or.inl rfl) | exact Or.inr (Or.inr rfl))
    (hd : (x == ("__debug__" : Str)) = false := by decide) (hcd : (x == ("__classdict__" : Str)) = false := by decide) : SimX G k Γ i (.Name x pos) (fun _ _ => mVar l) := fun X W C a oe pn c A dx dd v hz hf mc Z φ ρ st σ H Q rs re hi hdx rv po => by
  refine wp_pe (pe_var (X := X.suite a ((a, oe) :: pn)) (i := l) (by show X.N[l]? = _; rw [C.N]; exact hN) (by show Vis X.env.scope x; rw [C.sc]; exact hv) hd hcd) ?_
  have po' : post G Z φ H (mVar l ρ st) (fun φ' H' d _ => ∀ v, Rep G Z φ' H' v d → Q v H') (fun _ _ _ => False) := po
  clear po
  have po := po'
  unfold mVar at po
  split at po
  · rename_i d e1
    obtain ⟨v, e2, r⟩ := re.2 l d e1
    exact ⟨v, e2, po.ok rs v r⟩
  · exact po.elim
def mAt (cs : List Str) : Str → D → M D := fun c dd _ st => if c ∈ cs then .ok dd st else .no
theorem sx_at {f : Str} (hx : ∀ c ∈ cs, Ex G c) (hN : Γ.N[i]? = some n := by rfl) (hv : Vis Γ.sc n := by first | exact Or.inl rfl | exact Or.inr (Or.inl rfl) | exact Or.inr (Or.inr rfl)) (hf0 : f = "at" := by rfl)
    (hd : (n == ("__debug__" : Str)) = false := by decide) (hcd : (n == ("__classdict__" : Str)) = false := by decide) (hb : ∀ env : Env, attributeBase (.Name n p) f env (eval (.Name n p) env) = eval (.Name n p) env := by intro _; rfl) :
    SimX G k Γ i (.Attribute (.Name n p) f pos) (mAt cs) := fun X W C a oe pn c A dx dd v hz hf mc Z φ ρ st σ H Q rs re hi hdx rv po => by
  subst hf0
  unfold mAt at po
  by_cases hc : c ∈ cs
  · rw [if_pos hc] at po
    obtain ⟨C', fI, qual, g1, g2, T, g4, g5, g6, g7, g8⟩ := (hx c hc).ex
    rw [mc] at g1
    cases g1
    refine wp_pe (pe_xf (C := A) (by rw [C.K]; exact g7) (by rw [C.K]; exact g8) hz.zc hf (pe_var (X := X.suite a ((a, oe) :: pn)) (i := i) (by show X.N[i]? = _; rw [C.N]; exact hN) (by show Vis X.env.scope n; rw [C.sc]; exact hv) hd hcd) (hb X.env)) ?_
    exact ⟨.ref a, hi, rfl, rfl, dx, _, v, rfl, hdx, rfl, po.ok rs _ rv⟩
  · rw [if_neg hc] at po
    exact po.elim
def xNil : Str → D → M (List D) := fun _ _ => mNil
def xCons (m : Str → D → M D) (r : Str → D → M (List D)) : Str → D → M (List D) := fun c d => mCons (m c d) (r c d)
theorem sx_nil : SimXA G k Γ i [] xNil := fun X W C a oe pn c A dx dd v hz hf mc Z φ ρ st σ H Q rs re hi hdx rv po => wp_pa pa_nil (po.ok rs [] .nil)
theorem sx_cons (h : SimX G k Γ i e m) (h' : SimXA G k Γ i es ml) (hs : ∀ env : Env, starEach (e :: es) env = (false, eval e env) :: starEach es env := by intro _; rfl) : SimXA G k Γ i (e :: es) (xCons m ml) := fun X W C a oe pn c A dx dd v hz hf mc Z φ ρ st σ H Q rs re hi hdx rv po => by
  have po' : post G Z φ H (mCons (m c dd) (ml c dd) ρ st) (fun φ' H' ds _ => ∀ vs, Reps G Z φ' H' vs ds → Q vs H') (fun _ _ _ => False) := po
  refine wp_pa (pa_cons (X := X.suite a ((a, oe) :: pn)) pe_wp pa_wp (hs X.env)) (h X W C a oe pn c A dx dd v hz hf mc Z φ ρ st σ H _ rs re hi hdx rv (post.mono (post.bnd po') fun φ1 H1 x st1 x1 rs1 p1 u ru => ?_))
  exact h' X W C a oe pn c A dx dd v hz hf mc Z φ1 ρ st1 σ H1 _ rs1 (re.ext x1) hi (x1.keep _ _ hdx (rs.notxd hdx)).1 (rv.ext x1) (post.mono (post.bnd p1) fun φ2 H2 xs st2 x2 rs2 p2 vs rvs => p2.ok rs2 _ (.cons (ru.ext x2) rvs))
def xTup (r : Str → D → M (List D)) : Str → D → M D := fun c d => mTup (r c d)
theorem sx_tup {x1 : Nat} (h : SimXA G k Γ i es ml) : SimX G k Γ i (.Tuple es x1 pos) (xTup ml) := fun X W C a oe pn c A dx dd v hz hf mc Z φ ρ st σ H Q rs re hi hdx rv po => by
  have po' : post G Z φ H (mTup (ml c dd) ρ st) (fun φ' H' d _ => ∀ v, Rep G Z φ' H' v d → Q v H') (fun _ _ _ => False) := po
  refine wp_pe (pe_tup (X := X.suite a ((a, oe) :: pn)) pa_wp) (h X W C a oe pn c A dx dd v hz hf mc Z φ ρ st σ H _ rs re hi hdx rv (post.mono (post.bnd po') fun φ1 H1 xs st1 x1 rs1 p1 vs rvs => ?_))
  split at p1
  · rename_i hz
    exact ⟨by rw [rvs.length]; exact sz_ok hz, fun q hq => (p1.ext (Ext.new hq)).ok (rs1.new hq) _ (rep_tup rs1 hq rvs)⟩
  · exact p1.elim
/-- the law's helper, of two texts -/
def xSame (r : Str → D → M (List D)) : Str → D → M D := fun c d ρ st => (r c d ρ st).bind fun ds st => match ds with
  | [.str s, .str t] => if SeqAt.shaped (.str s) = true ∧ SeqAt.shaped (.str t) = true then .ok (.bl (s == t)) st else .no
  | _ => .no
theorem sx_same {x : Str} (F : SameH G k x) (h : SimXA G k Γ i (e :: es) ml) (hg : GlG Γ x := by rfl) (hdb : (x == ("__debug__" : Str)) = false := by decide)
    (he : ∀ env : Env, starEach (e :: es) env = (false, eval e env) :: starEach es env := by intro _; rfl) (hpl : ∀ env : Env, (backTo pos (starEach es env)).any (·.1) = false := by intro _; rfl) :
    SimX G k Γ i (.Call (.Name x p) (e :: es) [] pos) (xSame ml) := fun X W C a oe pn c A dx dd v hz hf mc Z φ ρ st σ H Q rs re hi hdx rv po => by
  obtain ⟨fa, fd, ps, g1, g2, g3, F⟩ := F.ex
  have F' : L2H.FnH X.prog X.w X.K X.mg X.base (L2N.CX X.prog X.w) k fa fd ps spH := by rw [C.prog, C.w, C.K, C.mg, C.base]; exact F
  have hc : L2H.HotC (X.suite a ((a, oe) :: pn)) := by
    obtain ⟨vs, hd⟩ := hf
    exact ⟨(a, oe), ⟨rfl, vs, hd, hz.2.2 vs hd⟩, List.mem_cons_self⟩
  have hp : ∀ σ, PassesAt (L2N.CX X.prog X.w) (X.suite a ((a, oe) :: pn)) σ ((fun _ _ _ _ => False : L2.St → XK) σ) := fun _ _ _ _ e s' _ q => by
    obtain ⟨_, _, _, _, _, _, _, _, _, _, _, _, z⟩ := q
    exact z.elim
  refine wp_pe (L2H.pe_callH (X := X.suite a ((a, oe) :: pn)) (E := fun _ _ _ _ => False) F' ⟨(L2H.roomH_of C.room).dp, (L2H.roomH_of C.room).un⟩ hc (C.toCok.gl hg) (by show X.mg x = _; rw [C.mg]; exact g1) (by show PySem.W.keepIn X.K _ = _; rw [C.K]; exact g2) (by show Binds X.K fd ps []; rw [C.K]; exact g3) hp pa_wp hdb (he X.env) (hpl X.env)) ?_
  refine h X W C a oe pn c A dx dd v hz hf mc Z φ ρ st σ H _ rs re hi hdx rv (post.mono (post.bnd po) fun φ1 H1 ds st1 x1 rs1 p1 vs rvs => ?_)
  split at p1
  · rename_i s t
    obtain ⟨u, w, rfl, r1, r2⟩ := rvs.two
    cases r1
    cases r2
    split at p1
    · rename_i hsh
      exact ⟨s, t, rfl, hsh.1, hsh.2, p1.ok rs1 _ (.bl _)⟩
    · exact p1.elim
  · exact p1.elim
theorem RepEn.hole {Z φ : List Addr} {H : Hp} {σ : L2.St} {ρ : En} (re : RepEn G Z φ H σ ρ) (i : Nat) (v : V) : RepEn G Z φ H (σ.set i (some v)) (ρ.set i none) := by
  refine ⟨by rw [List.length_set, List.length_set]; exact re.1, fun j d' h => ?_⟩
  by_cases hij : i = j
  · subst hij
    by_cases hl : i < ρ.length
    · rw [List.getElem?_set_self hl] at h; cases h
    · rw [List.getElem?_eq_none (by simpa using hl)] at h; cases h
  · rw [List.getElem?_set_ne hij] at h ⊢
    exact re.2 j d' h
/-- the suite returns -/
def xRt (m : Str → D → M D) (i : Nat) : Str → D → MS := fun c d ρ st => match m c d (ρ.set i none) st with
  | .ok d st => .rt d st
  | _ => .no
theorem xRt_noer (m : Str → D → M D) (i : Nat) (c : Str) (d : D) (ρ : En) (st : Sto) (c' : Str) (d' : D) (ρ' : En) (st' : Sto) : xRt m i c d ρ st ≠ .er c' d' ρ' st' := by
  unfold xRt
  split <;> exact fun h => nomatch h
theorem su_ret (h : SimX G k Γ i e m) (hi : i < Γ.N.length) : SimSu G k Γ (some i) [.Return (some e) pos] (xRt m i) := fun X W C a oe cls d pn hz hf Z φ ρ st σ H B c A dx v dd rs re mc hcls hd hdx rv ha po => by
  subst hcls hd
  intro pins s' I
  have hl : i < σ.length := by
    have h1 : (σ.set i (some (V.ref a))).length = X.N.length := I.len
    rw [List.length_set, C.N] at h1
    rw [h1]
    exact hi
  refine wp_pss (pss_one (ps_ret pe_wp)) ?_ pins s' I
  refine h X W C a oe pn c A dx dd v hz hf mc Z φ (ρ.set i none) st _ H _ rs (re.hole i _) (List.getElem?_set_self hl) hdx rv ?_
  unfold xRt at po
  cases e1 : m c dd (ρ.set i none) st with
  | ok d st1 =>
    rw [e1] at po
    exact fun φ' H' x rs' v rv => po φ' H' v x rs' rv
  | er c d st1 => rw [e1] at po; exact po.elim
  | no => rw [e1] at po; exact po.elim
end
end Kp

/-! # Kp, 15: enumerate of a tuple, of a list -/
namespace Kx
open PySem PySem.Spec L2
open PyProof.Rows hiding St
open Sem (wp)
open AutoSeq1 (wpAny_loadPart')

theorem kp_meets_enum_tup (l : Addr) (items : Array Value) (n : Nat) (dct : Option Addr) (sl : Array (Option Value)) :
    Meets (Builtin.«enumerate.__new__» ⟨[.type "enumerate", .ref l], []⟩) (fun _ R s => s.heap.get? l = some { cls := .type "tuple", dict := dct, data := .seq items n, slots := sl } ∧ R (.ok (.ret (.ref (s.heap.push { cls := .type "tuple_iterator", data := .fields #[.ref l, .int 0 0] }).objs.size)))
        { s with heap := (s.heap.push { cls := .type "tuple_iterator", data := .fields #[.ref l, .int 0 0] }).push { cls := .type "enumerate", data := .fields #[.none, .bool false, .ref s.heap.objs.size, rawInt 0, .none, .none] } }) :=
  .of_wp fun prog w A R s h => by
    obtain ⟨hp, g, d, tk, os⟩ := s; obtain ⟨hl, h⟩ := h
    have hsub := sub_enumerate
    have hL : Heap.IsTuple (Shared.heap ⟨hp, g, d, tk, os⟩) l items := ⟨_, hl, rfl, n, rfl⟩
    wp_walk using wpAny_loadPart' hl
    refine wpAny_stack_any fun st => wpAny_pure ?_
    split
    · rename_i c _ _ _ _ _
      cases (c == Value.type "enumerate")
      · wp_walk using wpAny_loadPart' hl, wpAny_pyIter_tuple hL
        exact ⟨_, rfl, h⟩
      · wp_walk using wpAny_loadPart' hl, wpAny_pyIter_tuple hL
        exact ⟨_, rfl, h⟩
    · wp_walk using wpAny_loadPart' hl, wpAny_pyIter_tuple hL
      exact ⟨_, rfl, h⟩
theorem kp_call_enum_tup {prog : Program} {w : World} {A : Around} {E : Value → Shared → Prop} {s : Shared} {l : Addr} {items : Array Value} {Q : Value → Shared → Prop} (hL : s.heap.IsTuple l items)
    (h : ∀ h', IsEnum h' (s.heap.objs.size + 1) s.heap.objs.size 0 .none → h'.IsTupleIter s.heap.objs.size l 0 → (∀ b o, s.heap.get? b = some o → h'.get? b = some o) → Q (.ref (s.heap.objs.size + 1)) { s with heap := h' }) :
    wpAny (model prog w) A (call (.type "enumerate") [.ref l]) Q E s := by
  obtain ⟨⟨c, dct, dt, sl⟩, hl, hc, n, hd⟩ := hL
  replace hc : c = .type "tuple" := hc
  replace hd : dt = .seq items n := hd
  subst hc hd
  refine callType_new F.called_enumerate (by decide) (F.typeCall_enumerate_1 _) (F.newCall_enumerate_1 _) (fun obj => F.args_object_init_2 obj _) F.entry_enumerate_new (kp_meets_enum_tup l items n dct sl) ⟨hl, ?_⟩
  have hz : (s.heap.push { cls := .type "tuple_iterator", data := .fields #[.ref l, .int 0 0] }).objs.size = s.heap.objs.size + 1 := Heap.size_push ..
  show _ ∧ _
  rw [hz]
  have he : IsEnum ((s.heap.push { cls := .type "tuple_iterator", data := .fields #[.ref l, .int 0 0] }).push { cls := .type "enumerate", data := .fields #[.none, .bool false, .ref s.heap.objs.size, rawInt 0, .none, .none] }) (s.heap.objs.size + 1) s.heap.objs.size 0 .none := by
    have q := Heap.get?_push_size (s.heap.push { cls := .type "tuple_iterator", data := .fields #[.ref l, .int 0 0] }) (o := { cls := .type "enumerate", data := .fields #[.none, .bool false, .ref s.heap.objs.size, rawInt 0, .none, .none] }) rfl
    rw [hz] at q; exact q
  exact ⟨⟨_, he, rfl⟩, h _ he ⟨_, Heap.get?_push_of_some _ (Heap.get?_push_size _ rfl), rfl, rfl⟩ fun b o x => Heap.get?_push_of_some _ (Heap.get?_push_of_some _ x)⟩
/-- the tuple at a, each item in a new pair -/
def IteT (K : PySem.W.Frag) (a : Addr) (n : Nat) : It :=
  ⟨fun i H => ∃ (xs : List V) (x : V), SqT K H a xs ∧ xs.length = n ∧ xs[i]? = some x, fun i H v H' => ∃ T x, v = .ref T ∧ H T = none ∧ H' = upd H T (.tup [.int (i : Nat), x]) ∧ ∀ xs, SqT K H a xs → xs[i]? = some x, fun i H => ∃ xs : List V, SqT K H a xs ∧ xs.length = n ∧ n ≤ i⟩
theorem turn_enumT {P : Program} {w : World} {K : PySem.W.Frag} {elts : List Expr} {kk : Nat} {tpos : Pos} (a e it : Addr) (n : Nat) :
    Turn P w K (.Tuple elts kk tpos) (IteT K a n) [e, it] e (fun i h => (∃ old, IsEnum h e it ((i : Nat) : Int) old) ∧ h.IsTupleIter it a i ∧ e ≠ it ∧ a ≠ it ∧ a ≠ e ∧ i ≤ n) where
  mem := by simp
  obj := fun i h st b hb => by
    obtain ⟨⟨old, he⟩, ⟨o, ho, hc, hd⟩, _⟩ := st
    have z : b = e ∨ b = it := by simpa using hb
    rcases z with z | z <;> rw [z]
    · exact ⟨_, he, fun v q => nomatch q⟩
    · exact ⟨o, ho, fun v q => by rw [hd] at q; cases q⟩
  keep := fun i h h' ⟨⟨old, he⟩, hi, hne⟩ k => ⟨⟨old, k e (by simp) _ he⟩, hi.at fun o q => k it (by simp) o q, hne⟩
  item := by
    intro X hP hw hK hc i pins s σ H E I hf st hg
    subst hP hw hK
    obtain ⟨⟨old, he⟩, hit, hne, hat, hae, hin⟩ := st
    obtain ⟨xs, x, hq, hxl, hx⟩ := hg
    obtain ⟨its, rv, p, hz⟩ := I.tuple hq
    obtain ⟨u, hu, ru⟩ := rv.get hx
    have hel : e < s.heap.objs.size := Heap.lt_size he
    have hil : it < s.heap.objs.size := by obtain ⟨_, q, _⟩ := hit; exact Heap.lt_size q
    have hpt : s.heap.IsTuple a its.toArray := p
    refine wpAny_pyNext_enum_itemD (Draws.tuple (A := X.A.in1) (by exact I.ok.hd hc) it a hat its.toArray) he ⟨hit, hpt⟩ (i := i) ?_ hne (by simp [hne, Ne.symm hae]) fun x' h' tk hP ho hSt hT hsz hk => ?_
    · have := (List.getElem?_eq_some_iff.mp hu).1
      simpa using this
    have hux : x' = u := by
      have h1 : its.toArray[i]? = some x' := hP
      have h2 : its.toArray[i]? = some u := by simpa using hu
      rw [h1] at h2
      exact Option.some.inj h2
    subst hux
    obtain ⟨hit', hp'⟩ := hSt
    refine ⟨_, rfl, wpAny_letOwnedTupleGo_enum (s := { s with heap := h', toks := tk + 1 }) ho fun h'' he' sb => ?_⟩
    have hT2 : h''.get? s.heap.objs.size = some { cls := .type "tuple", data := .seq #[.int i tk, x'] } := (sb.2 _ (Nat.ne_of_gt hel)).trans hT
    have new : ObjOk X.prog X.w (upd H s.heap.objs.size (.tup [.int (i : Nat), x])) h'' s.heap.objs.size (.tup [.int (i : Nat), x]) := ⟨by show 2 ≤ sizeLine; decide, [.int i tk, x'], .cons ⟨_, rfl⟩ (.cons ru .nil), ⟨_, hT2, rfl, _, rfl⟩⟩
    have I1 : Inv X pins σ (upd H s.heap.objs.size (.tup [.int (i : Nat), x])) { s with heap := h'', toks := tk + 1 } :=
      I.turnedNew (t' := tk + 1) (ch := [e, it]) (fun b ob hb q => (sb.2 b (fun z => hb (by simp [z]))).trans (hk b ob (fun z => hb (by simp [z])) (fun z => hb (by simp [z])) q)) hf (Nat.le_refl _) new
    refine ⟨.ref s.heap.objs.size, _, I1, rfl, ⟨_, x, rfl, I.hok.fresh (Nat.le_refl _), rfl, fun ys hy => by rw [I.tuple_inj hy hq]; exact hx⟩, ⟨⟨x', ?_⟩, hit'.at fun o q => (sb.2 it (Ne.symm hne)).trans q, hne, hat, hae, by rw [← hxl]; exact (List.getElem?_eq_some_iff.mp hx).1⟩, fun b hb => ?_⟩
    · have q : ((i + 1 : Nat) : Int) = (i : Int) + 1 := by omega
      rw [q]; exact he'
    · have hb' : b < s.heap.objs.size := by
        have z : b = e ∨ b = it := by simpa using hb
        rcases z with z | z <;> rw [z] <;> assumption
      rw [upd_ne (Nat.ne_of_lt hb')]
      exact (hf b hb).1
  done := by
    intro X hP hw hK hc i pins s σ H E I hf st hg
    subst hP hw hK
    obtain ⟨⟨old, he⟩, hit, hne, hat, hae, hin⟩ := st
    obtain ⟨xs, hq, hxl, hx⟩ := hg
    obtain ⟨its, rv, p, hz⟩ := I.tuple hq
    obtain ⟨f0, f1, f2, f3, f4, f5⟩ := hf it (by simp)
    have hl := rv.length
    have hpt : s.heap.IsTuple a its.toArray := p
    have hi : i = its.toArray.size := by
      rw [List.size_toArray, ← hl]
      omega
    subst hi
    exact wpAny_pyNext_enum_endD (Draws.tuple (A := X.A.in1) (by exact I.ok.hd hc) it a hat its.toArray) he ⟨hit, hpt⟩ fun h' eb => ⟨rfl, I.turned (t' := s.toks) (fun b o hb q => eb b o hb q) f0 f1 f3 f4 f5⟩
  self := fun A i s Q E ⟨⟨_, he⟩, _⟩ h => wpAny_pyIter_enum he h
/-- enumerate of a tuple or of a list -/
def iEnS (K : PySem.W.Frag) (ta : TA) : TI := fun σ H R => ta σ H fun vs H1 => ∃ a, vs = [.ref a] ∧ ((∃ xs, SqL K H1 a xs ∧ R (Ite K a) H1) ∨ ∃ xs, SqT K H1 a xs ∧ R (IteT K a xs.length) H1)
theorem pi_enS {X : Cx} {e : Expr} {ta : TA} {p pos tpos : Pos} {elts : List Expr} {kk : Nat} (hg : Gl X "enumerate") (hm : X.mg "enumerate" = none) (ha : PA X [e] ta) (hs : starEach [e] X.env = [(false, eval e X.env)]) :
    PI X (.Tuple elts kk tpos) (.Call (.Name "enumerate" p) [e] [] pos) (iEnS X.K ta) := by
  refine ⟨fun pins s σ H R I h => ?_⟩
  refine Call_ (ld_blt I hg hm boot_enumerate (PyProof.Rows.callWith_type1 (thn (ha.run pos pins s σ H _ I h) fun us s1 ⟨vs, H1, I1, r1, q1⟩ => ?_) hs rfl))
  obtain ⟨a, ex, q1⟩ := q1
  subst ex
  cases r1 with
  | cons r rr =>
    cases rr
    cases r
    have fp : ∀ b ∈ [s1.heap.objs.size + 1, s1.heap.objs.size], FpOk X pins H1 b := fun b hb => by
      have z : b = s1.heap.objs.size + 1 ∨ b = s1.heap.objs.size := by simpa using hb
      have hle : s1.heap.objs.size ≤ b := by rcases z with z | z <;> rw [z] <;> omega
      exact I1.fpOk hle (I1.hok.fresh hle)
    rcases q1 with ⟨xs, hq, q⟩ | ⟨xs, hq, q⟩
    · obtain ⟨its, rv, p', hz⟩ := I1.list hq
      exact call_enumerate_list p'.isList fun h' he hit hsz hk => wpAny_pyIter_enum he ⟨s1.heap.objs.size + 1, [s1.heap.objs.size + 1, s1.heap.objs.size], _, _, H1, rfl, I1.kept (t' := s1.toks) hk, turn_enum a _ _, ⟨⟨.none, he⟩, hit, Nat.succ_ne_self _⟩, fp, q⟩
    · obtain ⟨its, rv, p', hz⟩ := I1.tuple hq
      have hlt : a < s1.heap.objs.size := by obtain ⟨o, ho, _⟩ := p'; exact Heap.lt_size ho
      refine kp_call_enum_tup p' fun h' he hit hk => wpAny_pyIter_enum he ⟨s1.heap.objs.size + 1, [s1.heap.objs.size + 1, s1.heap.objs.size], _, _, H1, rfl, I1.kept (t' := s1.toks) hk, turn_enumT a _ _ xs.length, ⟨⟨.none, he⟩, hit, Nat.succ_ne_self _, Nat.ne_of_lt hlt, Nat.ne_of_lt (Nat.lt_succ_of_lt hlt), Nat.zero_le _⟩, fp, q⟩
end Kx
namespace Kp
open PySem PySem.Spec L2
open PyProof.Rows hiding St
section
variable {G : Gb} {k : Nat} {Γ : Sc} {e a : Expr} {es elts : List Expr} {pos p tpos : Pos} {m : M D} {kk : Nat}
def enD (i : Nat) : List D → List D
  | [] => []
  | d :: ds => .tup [.int (i : Nat), d] :: enD (i + 1) ds
theorem enD_len : ∀ (ds : List D) (i : Nat), (enD i ds).length = ds.length
  | [], _ => rfl
  | _ :: ds, i => by rw [enD, List.length_cons, List.length_cons, enD_len ds]
theorem enD_get : ∀ (ds : List D) (j i : Nat) (x : D), (enD j ds)[i]? = some x → ∃ d, ds[i]? = some d ∧ x = .tup [.int ((j + i : Nat) : Int), d]
  | [], _, i, x, h => by simp [enD] at h
  | d :: ds, j, 0, x, h => by
    simp [enD] at h
    exact ⟨d, rfl, by rw [← h]; rfl⟩
  | d :: ds, j, i + 1, x, h => by
    rw [enD, List.getElem?_cons_succ] at h
    obtain ⟨d', h1, h2⟩ := enD_get ds (j + 1) i x h
    exact ⟨d', by rw [List.getElem?_cons_succ]; exact h1, by rw [h2]; congr 4; omega⟩
def mEnum (m : M D) : M (List D) := fun ρ st => ((m ρ st).bind seqD).bind fun ds st => .ok (enD 0 ds) st
theorem enum_yld {Z φ : List Addr} {H : Hp} {st : Sto} {v : V} {d : D} {i : Nat} {T : Addr} (rs : RS G Z φ st H) (r : Rep G Z φ H v d) (hT : H T = none) : Ext φ H φ (upd H T (.tup [.int (i : Nat), v])) ∧ RS G Z φ st (upd H T (.tup [.int (i : Nat), v])) ∧
    Rep G Z φ (upd H T (.tup [.int (i : Nat), v])) (.ref T) (.tup [.int (i : Nat), d]) := ⟨Ext.new hT, rs.new hT, rep_tup rs hT (.cons (.int _) (.cons r .nil))⟩
theorem simi_enum {x : Str} (h : SimE G k Γ e m) (hm : G.mg x = none) (hx : x = "enumerate" := by rfl) (hg : GlG Γ x := by rfl) (hs : ∀ env : Env, starEach [e] env = [(false, eval e env)] := by intro _; rfl) : SimI G k Γ (.Tuple elts kk tpos) (.Call (.Name x p) [e] [] pos) (mEnum m) := fun X W C Z φ ρ st σ H R rs re po => by
  subst hx
  refine wp_pi (Kx.pi_enS (C.gl hg) (by rw [C.mg]; exact hm) (pa_cons pe_wp pa_nil (by rw [hs X.env]; rfl)) (hs X.env)) ?_
  refine h X W C Z φ ρ st σ H _ rs re (post.mono (post.bnd (post.bnd po)) fun φ1 H1 d st1 x1 rs1 p1 v rv => ?_)
  show ∃ a, [v] = [.ref a] ∧ _
  rw [C.K]
  cases rv with
  | tup h1 r =>
    refine ⟨_, rfl, .inr ⟨_, h1.sq, ?_⟩⟩
    refine p1.ok rs1 |>.ok rs1 _ fun Z' φ' st' H' x m rs i => ?_
    have r' := r.mv m
    have h' := (h1.ext x).sq
    refine ⟨fun hi => ⟨_, h', rfl, by rw [enD_len] at hi; rw [r.length]; exact hi⟩, fun d hd => ?_⟩
    obtain ⟨d', h2, rfl⟩ := enD_get _ 0 i d hd
    obtain ⟨v', hv, rv'⟩ := r'.get h2
    refine ⟨⟨_, v', h', rfl, hv⟩, fun y H'' ⟨T, z, e1, e2, e3, e4⟩ => ?_⟩
    subst e1 e3
    have e5 := e4 _ h'
    rw [hv] at e5
    cases e5
    rw [Nat.zero_add]
    exact enum_yld rs rv' e2
  | lst h1 n z r =>
    refine ⟨_, rfl, .inl ⟨_, .inl (.inl h1), ?_⟩⟩
    refine p1.ok rs1 |>.ok rs1 _ fun Z' φ' st' H' x m rs i => ?_
    have r' := r.mv m
    have h' : SqL G.K H' _ _ := .inl (.inl (x.keep _ _ h1 n).1)
    refine ⟨fun hi => ⟨_, h', by rw [enD_len] at hi; rw [r.length]; exact hi⟩, fun d hd => ?_⟩
    obtain ⟨d', h2, rfl⟩ := enD_get _ 0 i d hd
    obtain ⟨v', hv, rv'⟩ := r'.get h2
    refine ⟨⟨_, v', h', hv⟩, fun y H'' ⟨T, z, e1, e2, e3, e4⟩ => ?_⟩
    subst e1 e3
    have e5 := e4 _ h'
    rw [hv] at e5
    cases e5
    rw [Nat.zero_add]
    exact enum_yld rs rv' e2
  | fls h1 r =>
    refine ⟨_, rfl, .inl ⟨_, h1.sq, ?_⟩⟩
    refine p1.ok rs1 |>.ok rs1 _ fun Z' φ' st' H' x m rs i => ?_
    have r' := r.mv m
    have h' := (h1.ext x).sq
    refine ⟨fun hi => ⟨_, h', by rw [enD_len] at hi; rw [r.length]; exact hi⟩, fun d hd => ?_⟩
    obtain ⟨d', h2, rfl⟩ := enD_get _ 0 i d hd
    obtain ⟨v', hv, rv'⟩ := r'.get h2
    refine ⟨⟨_, v', h', hv⟩, fun y H'' ⟨T, z, e1, e2, e3, e4⟩ => ?_⟩
    subst e1 e3
    have e5 := e4 _ h'
    rw [hv] at e5
    cases e5
    rw [Nat.zero_add]
    exact enum_yld rs rv' e2
  | @ref q n hq =>
    obtain ⟨ds, o, vs, e1, e2, r⟩ := seqD_lk rs1 hq p1
    rw [e1] at p1
    refine ⟨_, rfl, .inl ⟨_, .inl (.inr ⟨o, e2⟩), ?_⟩⟩
    refine p1.ok rs1 |>.ok rs1 _ fun Z' φ' st' H' x m rs i => ?_
    have r' := r.mv m
    have h' : SqL G.K H' q vs := .inl (.inr ⟨o, x.frz _ _ _ e2⟩)
    refine ⟨fun hi => ⟨_, h', by rw [enD_len] at hi; rw [r.length]; exact hi⟩, fun d hd => ?_⟩
    obtain ⟨d', h2, rfl⟩ := enD_get _ 0 i d hd
    obtain ⟨v', hv, rv'⟩ := r'.get h2
    refine ⟨⟨_, v', h', hv⟩, fun y H'' ⟨T, z, e1, e2, e3, e4⟩ => ?_⟩
    subst e1 e3
    have e5 := e4 _ h'
    rw [hv] at e5
    cases e5
    rw [Nat.zero_add]
    exact enum_yld rs rv' e2
  | _ => exact (show False from p1).elim
end
end Kp

/-! # Kp, 16: dicts by ints and texts -/
namespace Kp
open PySem PySem.Spec L2
open PyProof.Rows hiding St

def keyD : D → Option Key
  | .int i => some (.inl i)
  | .str x => some (.inr x)
  | _ => none
def dval (kvs : List (Key × D)) (k : Key) : Option D := match kvs with
  | [] => none
  | (k', d) :: r => if k' = k then some d else dval r k
def dhas (kvs : List (Key × D)) (k : Key) : Bool := kvs.any fun kv => decide (kv.1 = k)
def dput (kvs : List (Key × D)) (k : Key) (d : D) : List (Key × D) := if dhas kvs k = true then kvs.map (fun kv => if kv.1 = k then (kv.1, d) else kv) else kvs ++ [(k, d)]
section
variable {G : Gb} {k : Nat} {Γ : Sc} {e a b c o f : Expr} {es : List Expr} {pos p apos cpos pos' : Pos} {m ma mb mc : M D} {mt mu : M Bool} {ml : M (List D)}
theorem key_val {Z φ : List Addr} {H : Hp} {v : V} {d : D} {q : Key} (r : Rep G Z φ H v d) (h : keyD d = some q) : v = kV q := by
  cases r <;> first | (cases h; done) | (cases h; rfl)
theorem dval_rep {Z φ : List Addr} {H : Hp} {q : Key} : ∀ {ws : List (Key × V)} {kvs : List (Key × D)}, ws.map (·.1) = kvs.map (·.1) → Reps G Z φ H (ws.map (·.2)) (kvs.map (·.2)) →
    (∀ d, dval kvs q = some d → ∃ v, valV ws q = some v ∧ Rep G Z φ H v d) ∧ (dval kvs q = none → valV ws q = none)
  | [], [], _, _ => ⟨fun d h => (by cases h), fun _ => rfl⟩
  | [], _ :: _, h, _ => by cases h
  | _ :: _, [], h, _ => by cases h
  | (k1, v) :: ws, (k2, d) :: kvs, h, r => by
    have e1 : k1 = k2 := (List.cons.inj h).1
    have e2 := (List.cons.inj h).2
    subst e1
    cases r with
    | cons r1 r2 =>
      unfold dval
      by_cases z : k1 = q
      · rw [if_pos z]
        refine ⟨fun d' h' => ?_, fun h' => (by cases h')⟩
        cases h'
        exact ⟨v, valV_pos z, r1⟩
      · rw [if_neg z]
        have hv : valV ((k1, v) :: ws) q = valV ws q := by simp [valV, List.find?_cons, z]
        rw [hv]
        exact dval_rep e2 r2
theorem dhas_eq {q : Key} : ∀ {ws : List (Key × V)} {kvs : List (Key × D)}, ws.map (·.1) = kvs.map (·.1) → (ws.any fun kv => decide (kv.1 = q)) = dhas kvs q
  | [], [], _ => rfl
  | [], _ :: _, h => by cases h
  | _ :: _, [], h => by cases h
  | (k1, v) :: ws, (k2, d) :: kvs, h => by
    have e1 : k1 = k2 := (List.cons.inj h).1
    have e2 := (List.cons.inj h).2
    subst e1
    have ih := dhas_eq (q := q) e2
    unfold dhas at ih ⊢
    rw [List.any_cons, List.any_cons, ih]
theorem dput_rep {Z φ : List Addr} {H : Hp} {q : Key} {v : V} {d : D} (rv : Rep G Z φ H v d) {ws : List (Key × V)} {kvs : List (Key × D)} (h : ws.map (·.1) = kvs.map (·.1)) (r : Reps G Z φ H (ws.map (·.2)) (kvs.map (·.2))) :
    (putK ws q v).map (·.1) = (dput kvs q d).map (·.1) ∧ Reps G Z φ H ((putK ws q v).map (·.2)) ((dput kvs q d).map (·.2)) := by
  unfold putK dput
  rw [dhas_eq h]
  split
  · have go : ∀ (ws : List (Key × V)) (kvs : List (Key × D)), ws.map (·.1) = kvs.map (·.1) → Reps G Z φ H (ws.map (·.2)) (kvs.map (·.2)) →
        (ws.map (fun kv => if kv.1 = q then (kv.1, v) else kv)).map (·.1) = (kvs.map (fun kv => if kv.1 = q then (kv.1, d) else kv)).map (·.1) ∧ Reps G Z φ H ((ws.map (fun kv => if kv.1 = q then (kv.1, v) else kv)).map (·.2)) ((kvs.map (fun kv => if kv.1 = q then (kv.1, d) else kv)).map (·.2)) := by
      intro ws
      induction ws with
      | nil =>
        intro kvs h r
        cases kvs with
        | nil => exact ⟨rfl, .nil⟩
        | cons _ _ => cases h
      | cons x ws ih =>
        intro kvs h r
        cases kvs with
        | nil => cases h
        | cons y kvs =>
          obtain ⟨k1, v1⟩ := x
          obtain ⟨k2, d2⟩ := y
          have e1 : k1 = k2 := (List.cons.inj h).1
          have e2 := (List.cons.inj h).2
          subst e1
          cases r with
          | cons r1 r2 =>
            obtain ⟨i1, i2⟩ := ih kvs e2 r2
            simp only [List.map_cons]
            by_cases z : k1 = q
            · rw [if_pos z, if_pos z]
              exact ⟨by rw [i1], .cons rv i2⟩
            · rw [if_neg z, if_neg z]
              exact ⟨by rw [i1], .cons r1 i2⟩
    exact go ws kvs h r
  · rw [List.map_append, List.map_append, List.map_append, List.map_append, h]
    exact ⟨rfl, r.append (.cons rv .nil)⟩
/-- a dict's cell -/
theorem RS.dk {Z φ : List Addr} {H : Hp} {st : Sto} {n : Nat} {q : Addr} {kvs : List (Key × D)} (rs : RS G Z φ st H) (e : st[n]? = some (.dk kvs)) (hq : φ[n]? = some q) : ∃ ws, H q = some (.dK ws) ∧ ws.map (·.1) = kvs.map (·.1) ∧ Reps G Z φ H (ws.map (·.2)) (kvs.map (·.2)) := by
  obtain ⟨u, e2, r2⟩ := rs.cells n _ q e hq
  cases u with
  | dK ws => exact ⟨ws, e2, r2.1, r2.2⟩
  | _ => exact r2.elim
theorem RS.lkd {Z φ : List Addr} {H : Hp} {st : Sto} {n : Nat} {q : Addr} {kvs : List (Key × D)} (rs : RS G Z φ st H) (e : st[n]? = some (.lk (.dk kvs))) (hq : φ[n]? = some q) : ∃ o ws, H q = some (.frz o (.dK ws)) ∧ ws.map (·.1) = kvs.map (·.1) ∧ Reps G Z φ H (ws.map (·.2)) (kvs.map (·.2)) := by
  obtain ⟨o, u, e2, r2⟩ := rs.cells n _ q e hq
  cases u with
  | dK ws => exact ⟨o, ws, e2, r2.1, r2.2⟩
  | _ => exact r2.elim
theorem RS.putD {Z φ : List Addr} {H : Hp} {st : Sto} {n : Nat} {q : Addr} {ws us : List (Key × V)} {kvs : List (Key × D)} (rs : RS G Z φ st H) (hq : φ[n]? = some q) (e2 : H q = some (.dK us)) (h1 : ws.map (·.1) = kvs.map (·.1)) (r : Reps G Z φ H (ws.map (·.2)) (kvs.map (·.2))) :
    RS G Z φ (st.set n (.dk kvs)) (upd H q (.dK ws)) ∧ Ext φ H φ (upd H q (.dK ws)) := by
  refine ⟨rs.put hq fun H' mv => ?_, Ext.put (List.mem_of_getElem? hq) (fun o u z => by rw [e2] at z; cases z)⟩
  by_cases z : H' q = some (.dK ws)
  · exact .inl ⟨_, z, h1, r.mv mv⟩
  · exact .inr z
/-! ### {} -/
def mDict0 : M D := fun _ st => .ok (.ref st.length) (st ++ [.dk []])
theorem sim_dict0 : SimE G k Γ (.Dict [] [] pos) mDict0 := fun X W C Z φ ρ st σ H Q rs re po => wp_pe pe_dnewK (by
  intro q hq
  refine po (φ ++ [q]) _ (Ext.cell hq) (rs.cell hq fun φ' H' mv => ?_) _ (.ref ?_)
  · by_cases z : H' q = some (.dK [])
    · exact .inl ⟨_, z, rfl, .nil⟩
    · exact .inr z
  · rw [← rs.len, List.getElem?_append_right (Nat.le_refl _), Nat.sub_self]
    rfl)
/-! ### d[y] -/
def dcell (st : Sto) : D → Option (List (Key × D))
  | .ref n => match st[n]? with
    | some (.dk kvs) => some kvs
    | some (.lk (.dk kvs)) => some kvs
    | _ => none
  | _ => none
theorem dcell_rd {Z φ : List Addr} {H : Hp} {st : Sto} {v : V} {d : D} {kvs : List (Key × D)} (rs : RS G Z φ st H) (r : Rep G Z φ H v d) (h : dcell st d = some kvs) : ∃ q ws, v = .ref q ∧ Rd H q (.dK ws) ∧ ws.map (·.1) = kvs.map (·.1) ∧ Reps G Z φ H (ws.map (·.2)) (kvs.map (·.2)) := by
  unfold dcell at h
  split at h
  · rename_i n
    cases r with
    | @ref q _ hq =>
      split at h
      · rename_i kvs' e1
        cases h
        obtain ⟨ws, h1, h2, h3⟩ := rs.dk e1 hq
        exact ⟨q, ws, rfl, .inl h1, h2, h3⟩
      · rename_i kvs' e1
        cases h
        obtain ⟨o, ws, h1, h2, h3⟩ := rs.lkd e1 hq
        exact ⟨q, ws, rfl, .inr ⟨o, h1⟩, h2, h3⟩
      · cases h
  · cases h
def gDix : D → D → Sto → Res D := fun x y st => match dcell st x, keyD y with
  | some kvs, some q => match dval kvs q with
    | some d => .ok d st
    | none => .no
  | _, _ => .no
theorem Cok.u1 {X : Cx} {W : WX} (C : Cok G k Γ X W) : X.A.units + 1 < cLine := by
  have := C.units
  omega
theorem sim_dix (ha : SimE G k Γ a ma) (hb : SimE G k Γ b mb) (hs : NoSl b := by exact fun _ _ => rfl) : SimE G k Γ (.Subscript a b pos) (mOp gDix ma mb) := fun X W C Z φ ρ st σ H Q rs re po =>
  wp_pe (pe_dget C.u1 pe_wp pe_wp hs) (ha X W C Z φ ρ st σ H _ rs re (post.mono (post.bnd po) fun φ1 H1 x st1 x1 rs1 p1 v rv =>
    hb X W C Z φ1 ρ st1 σ H1 _ rs1 (re.ext x1) (post.mono (post.bnd p1) fun φ2 H2 y st2 x2 rs2 p2 u ru => by
      unfold gDix at p2
      split at p2
      · rename_i kvs q e1 e2
        split at p2
        · rename_i d e3
          obtain ⟨z, ws, rfl, h1, h2, h3⟩ := dcell_rd rs2 (rv.ext x2) e1
          obtain ⟨w, h4, h5⟩ := (dval_rep h2 h3).1 d e3
          exact ⟨z, w, rfl, .inl ⟨ws, q, h1, key_val ru e2, h4.symm⟩, p2.ok rs2 w h5⟩
        · exact p2.elim
      · exact p2.elim)))
/-! ### d.setdefault(y, z) -/
def mSetd (mo mk mv : M D) : M D := fun ρ st => (mo ρ st).bind fun x st => if (dcell st x).isSome = true then (mk ρ st).bind fun y st => (mv ρ st).bind fun z st => match x, keyD y with
  | .ref n, some q => match st[n]? with
    | some (.dk kvs) => if kvs.length < szMax then (match dval kvs q with
      | some d => .ok d st
      | none => .ok z (st.set n (.dk (dput kvs q z)))) else .no
    | _ => .no
  | _, _ => .no else .no
theorem sim_setd {name : Str} (ho : SimE G k Γ o ma) (he : SimE G k Γ e mb) (hf : SimE G k Γ f mc) (hn : name = "setdefault" := by rfl)
    (hbase : ∀ env : Env, attributeBase o name env (eval o env) = eval o env := by intro _; rfl) (hfew : ∀ env : Env, ((backTo cpos (starEach [e, f] env)).all (fun x => !x.1) && (backToKw cpos (keywordEach [] env)).all (fun x => x.1.isSome)
      && decide (([e, f] : List Expr).length + ([] : List Keyword).length + (if ([] : List Keyword).isEmpty then 0 else 1) < 30)) = true := by intro _; rfl)
    (hline : (apos.endLine == cpos.line) = true := by rfl) (ht : ∀ env : Env, backTo cpos (starEach [e, f] env) = [(false, eval e env), (false, eval f env)] := by intro _; rfl) :
    SimE G k Γ (.Call (.Attribute o name apos) [e, f] [] cpos) (mSetd ma mb mc) := fun X W C Z φ ρ st σ H Q rs re po => by
  subst hn
  refine wp_pe (pe_dsetd pe_wp pe_wp pe_wp ⟨hbase X.env, hfew X.env, hline, ht X.env⟩) ?_
  refine ho X W C Z φ ρ st σ H _ rs re (post.mono (post.bnd po) fun φ1 H1 x st1 x1 rs1 p1 v rv => ?_)
  split at p1
  · rename_i hd
    obtain ⟨kvs, hk⟩ := Option.isSome_iff_exists.mp hd
    obtain ⟨q, ws, rfl, h1, h2, h3⟩ := dcell_rd rs1 rv hk
    refine ⟨q, rfl, .inl ⟨ws, h1⟩, he X W C Z φ1 ρ st1 σ H1 _ rs1 (re.ext x1) (post.mono (post.bnd p1) fun φ2 H2 y st2 x2 rs2 p2 u ru => ?_)⟩
    refine hf X W C Z φ2 ρ st2 σ H2 _ rs2 ((re.ext x1).ext x2) (post.mono (post.bnd p2) fun φ3 H3 z st3 x3 rs3 p3 w rw' => ?_)
    split at p3
    · rename_i n key e1
      have rv3 := (rv.ext x2).ext x3
      cases rv3 with
      | ref hq =>
        split at p3
        · rename_i kvs' e2
          split at p3
          · rename_i hl
            obtain ⟨ws', g1, g2, g3⟩ := rs3.dk e2 hq
            have hl' : ws'.length < sizeLine := by
              have := congrArg List.length g2
              rw [List.length_map, List.length_map] at this
              rw [this, sizeLine_eq]
              exact hl
            obtain ⟨d1, d2⟩ := dval_rep (q := key) g2 g3
            refine ⟨ws', key, g1, key_val (ru.ext x3) e1, hl', fun v' hv' => ?_, fun hv' => ?_⟩
            · split at p3
              · rename_i d e3
                obtain ⟨v2, g4, g5⟩ := d1 d e3
                rw [hv'] at g4
                cases g4
                exact p3.ok rs3 v' g5
              · rename_i e3
                rw [d2 e3] at hv'
                cases hv'
            · split at p3
              · rename_i d e3
                obtain ⟨v2, g4, g5⟩ := d1 d e3
                rw [hv'] at g4
                cases g4
              · rename_i e3
                obtain ⟨i1, i2⟩ := dput_rep (q := key) rw' g2 g3
                obtain ⟨rs', x'⟩ := rs3.putD hq g1 i1 i2
                exact p3 φ3 _ x' rs' w (rw'.ext x')
          · exact p3.elim
        · exact p3.elim
    · exact p3.elim
  · exact p1.elim
/-! ### d[y] = v -/
def sDput (mv mo mk : M D) : MS := fun ρ st => eb (mv ρ st) ρ fun z st => eb (mo ρ st) ρ fun x st => eb (mk ρ st) ρ fun y st => match x, keyD y with
  | .ref n, some q => match st[n]? with
    | some (.dk kvs) => if kvs.length < szMax then .nx ρ (st.set n (.dk (dput kvs q z))) else .no
    | _ => .no
  | _, _ => .no
theorem sim_dput (hv : SimE G k Γ e mc) (ho : SimE G k Γ o ma) (hi : SimE G k Γ b mb) (hs : ∀ env : Env, env.scope = Γ.sc → swapsWith e (some (.Subscript o b pos')) pos.line env = pure false := by (intro env h; cases env; cases h; rfl)) :
    SimS G k Γ (.Assign [.Subscript o b pos'] e pos) (sDput mc ma mb) := fun X W C Z φ ρ st σ H B rs re po => by
  refine wp_ps (ps_dput C.toCok.u1 pe_wp pe_wp pe_wp (hs X.env C.sc)) ?_
  refine hv X W C.toCok Z φ ρ st σ H _ rs re (post.mono (postS.bnd re po) fun φ1 H1 z st1 x1 rs1 p1 v rv => ?_)
  refine ho X W C.toCok Z φ1 ρ st1 σ H1 _ rs1 (re.ext x1) (post.mono (postS.bnd (re.ext x1) p1) fun φ2 H2 x st2 x2 rs2 p2 u ru => ?_)
  refine hi X W C.toCok Z φ2 ρ st2 σ H2 _ rs2 (re.ext (x1.trans x2)) (post.mono (postS.bnd (re.ext (x1.trans x2)) p2) fun φ3 H3 y st3 x3 rs3 p3 w rw' => ?_)
  split at p3
  · rename_i n key e1
    have ru3 := ru.ext x3
    cases ru3 with
    | @ref q _ hq =>
      split at p3
      · rename_i kvs' e2
        split at p3
        · rename_i hl
          obtain ⟨ws', g1, g2, g3⟩ := rs3.dk e2 hq
          have hl' : ws'.length < sizeLine := by
            have := congrArg List.length g2
            rw [List.length_map, List.length_map] at this
            rw [this, sizeLine_eq]
            exact hl
          obtain ⟨i1, i2⟩ := dput_rep (q := key) (rv.ext (x2.trans x3)) g2 g3
          obtain ⟨rs', x'⟩ := rs3.putD hq g1 i1 i2
          exact ⟨q, _, rfl, .inl ⟨ws', key, g1, key_val rw' e1, hl', rfl⟩, p3 φ3 _ σ x' rs' (re.ext (x1.trans (x2.trans (x3.trans x'))))⟩
        · exact p3.elim
      · exact p3.elim
  · exact p3.elim
/-! ### y in d -/
def gDin (t : Bool) : D → D → Sto → Res D := fun y x st => match dcell st x, keyD y with
  | some kvs, some q => .ok (.bl (((dval kvs q).isSome) == t)) st
  | _, _ => .no
theorem din_go {Z φ : List Addr} {H : Hp} {st : Sto} {x y : V} {d e : D} {kvs : List (Key × D)} {q : Key} (rs : RS G Z φ st H) (r1 : Rep G Z φ H x d) (r2 : Rep G Z φ H y e) (h1 : dcell st d = some kvs) (h2 : keyD e = some q) :
    ∃ z o, x = .ref z ∧ DGet H z y o ∧ o.isSome = (dval kvs q).isSome := by
  obtain ⟨z, ws, rfl, g1, g2, g3⟩ := dcell_rd rs r1 h1
  refine ⟨z, valV ws q, rfl, .inl ⟨ws, q, g1, key_val r2 h2, rfl⟩, ?_⟩
  obtain ⟨d1, d2⟩ := dval_rep (q := q) g2 g3
  cases h : dval kvs q with
  | some d' => obtain ⟨v, g4, _⟩ := d1 d' h; rw [g4]; rfl
  | none => rw [d2 h]; rfl
theorem sim_din (hb : SimE G k Γ b mb) (ho : SimE G k Γ o ma) (hm : behindInMarks .In o = false := by first | exact nobehind _ (by decide) (by decide) | rfl) : SimE G k Γ (.Compare b [.In] [o] pos) (mOp (gDin true) mb ma) := fun X W C Z φ ρ st σ H Q rs re po =>
  wp_pe (pe_cmp (pc_din C.u1 pe_wp pe_wp) hm) (hb X W C Z φ ρ st σ H _ rs re (post.mono (post.bnd po) fun φ1 H1 y st1 x1 rs1 p1 v rv =>
    ho X W C Z φ1 ρ st1 σ H1 _ rs1 (re.ext x1) (post.mono (post.bnd p1) fun φ2 H2 x st2 x2 rs2 p2 u ru => by
      unfold gDin at p2
      split at p2
      · rename_i kvs q e1 e2
        obtain ⟨z, ov, rfl, g1, g2⟩ := din_go rs2 ru (rv.ext x2) e1 e2
        exact ⟨z, ov, rfl, g1, p2.ok rs2 _ (by rw [g2]; cases (dval kvs q).isSome <;> exact .bl _)⟩
      · exact p2.elim)))
theorem sim_dnotin (hb : SimE G k Γ b mb) (ho : SimE G k Γ o ma) (hm : behindInMarks .NotIn o = false := by first | exact nobehind _ (by decide) (by decide) | rfl) : SimE G k Γ (.Compare b [.NotIn] [o] pos) (mOp (gDin false) mb ma) := fun X W C Z φ ρ st σ H Q rs re po =>
  wp_pe (pe_cmp (pc_dnotin C.u1 pe_wp pe_wp) hm) (hb X W C Z φ ρ st σ H _ rs re (post.mono (post.bnd po) fun φ1 H1 y st1 x1 rs1 p1 v rv =>
    ho X W C Z φ1 ρ st1 σ H1 _ rs1 (re.ext x1) (post.mono (post.bnd p1) fun φ2 H2 x st2 x2 rs2 p2 u ru => by
      unfold gDin at p2
      split at p2
      · rename_i kvs q e1 e2
        obtain ⟨z, ov, rfl, g1, g2⟩ := din_go rs2 ru (rv.ext x2) e1 e2
        exact ⟨z, ov, rfl, g1, p2.ok rs2 _ (by rw [g2]; cases (dval kvs q).isSome <;> exact .bl _)⟩
      · exact p2.elim)))
/-! ### while it is walked -/
def lockable : Cell → Bool
  | .dk _ => true
  | .lst _ => true
  | _ => false
theorem lockable_at {Z φ : List Addr} {H : Hp} {q : Addr} {c : Cell} (hl : lockable c = true) : (RepC G Z φ H q c ↔ ∃ u, H q = some u ∧ RepO' G Z φ H u c) ∧ ∀ u, RepO' G Z φ H u c → Mut (some u) ∧ ∀ o v, u ≠ .frz o v := by
  cases c with
  | dk kvs => exact ⟨Iff.rfl, fun u r => by cases u <;> first | exact ⟨trivial, fun _ _ z => nomatch z⟩ | exact r.elim⟩
  | lst xs => exact ⟨Iff.rfl, fun u r => by cases u <;> first | exact ⟨trivial, fun _ _ z => nomatch z⟩ | exact r.elim⟩
  | _ => cases hl
/-- the lock is taken -/
theorem lock_in {Z φ : List Addr} {H : Hp} {st : Sto} {n : Nat} {q : Addr} {c : Cell} {u : HO} (rs : RS G Z φ st H) (hq : φ[n]? = some q) (r : RepO' G Z φ H u c) (od : Obj) : RS G Z φ (st.set n (.lk c)) (upd H q (.frz od u)) ∧ Mv Z φ H Z φ (upd H q (.frz od u)) := by
  refine ⟨rs.put hq fun H' mv' => ?_, Mv.put (List.mem_of_getElem? hq)⟩
  by_cases z : H' q = some (.frz od u)
  · exact .inl ⟨od, u, z, r.mv mv'⟩
  · exact .inr z
/-- .. and given back -/
theorem lock_out {Z φ φ' : List Addr} {H H' : Hp} {st' : Sto} {n : Nat} {q : Addr} {c' : Cell} {u : HO} {od : Obj} (hl : lockable c' = true) (hu : H q = some u) (hnf : ∀ o v, u ≠ .frz o v) (hq : φ[n]? = some q) (x' : Ext φ (upd H q (.frz od u)) φ' H') (rs' : RS G Z φ' st' H') (e4 : st'[n]? = some (.lk c')) :
    H' q = some (.frz od u) ∧ RS G Z φ' (st'.set n c') (upd H' q u) ∧ Mv Z φ' H' Z φ' (upd H' q u) ∧ Ext φ H φ' (upd H' q u) := by
  have hq' : φ'[n]? = some q := x'.at hq
  have hf : H' q = some (.frz od u) := x'.frz q od _ upd_same
  obtain ⟨o2, u2, k1, k2⟩ := rs'.cells n _ q e4 hq'
  rw [hf] at k1
  cases k1
  refine ⟨hf, rs'.put hq' fun H'' mv'' => ?_, Mv.put (List.mem_of_getElem? hq'), x'.pre, fun a w hw hn => ?_, fun a ob w hw => ?_⟩
  · by_cases z : H'' q = some u
    · exact .inl ((lockable_at hl).1.mpr ⟨u, z, k2.mv mv''⟩)
    · exact .inr z
  · have na : a ≠ q := ne_m (List.mem_of_getElem? hq) hn
    obtain ⟨y1, y2⟩ := x'.keep a w (by rw [upd_ne na]; exact hw) hn
    exact ⟨by rw [upd_ne na]; exact y1, y2⟩
  · have na : a ≠ q := fun z => by
      subst z
      rw [hu] at hw
      exact hnf _ _ (Option.some.inj hw)
    rw [upd_ne na]
    exact x'.frz a ob w (by rw [upd_ne na]; exact hw)
def mLock (i : Nat) (m : M D) : M D := fun ρ st => match ρ[i]? with
  | some (some (.ref n)) => match st[n]? with
    | some c => if lockable c = true then (match m ρ (st.set n (.lk c)) with
      | .ok d st' => match st'[n]? with
        | some (.lk c') => if lockable c' = true then .ok d (st'.set n c') else .no
        | _ => .no
      | _ => .no) else .no
    | _ => .no
  | _ => .no
theorem sim_lock (i : Nat) (h : SimE G k Γ e m) : SimE G k Γ e (mLock i m) := fun X W C Z φ ρ st σ H Q rs re po => by
  unfold mLock at po
  split at po
  · rename_i n e1
    split at po
    · rename_i c e2
      split at po
      · rename_i hl
        obtain ⟨v, hv, rv⟩ := re.2 i _ e1
        cases rv with
        | @ref q _ hq =>
          obtain ⟨u, hu, r⟩ := (lockable_at hl).1.mp (rs.cells n c q e2 hq)
          obtain ⟨hm, hnf⟩ := (lockable_at (q := q) hl).2 u r
          refine wp_pe (pe_lock pe_wp) ⟨q, u, hu, hm, fun od => ?_⟩
          obtain ⟨rs1, mv⟩ := lock_in rs hq r od
          refine h X W C Z φ ρ _ σ _ _ rs1 (re.mv mv) ?_
          split at po
          · rename_i d st' e3
            rw [e3]
            intro φ' H' x' rs' v' rv'
            split at po
            · rename_i c' e4
              split at po
              · rename_i hl'
                obtain ⟨hf, rs2, mv2, xx⟩ := lock_out hl' hu hnf hq x' rs' e4
                exact ⟨hf, po φ' _ xx rs2 v' (rv'.mv mv2)⟩
              · exact po.elim
            · exact po.elim
          · exact po.elim
      · exact po.elim
    · exact po.elim
  · exact po.elim
def unlk (n : Nat) (st : Sto) (f : Sto → SRes) : SRes := match st[n]? with
  | some (.lk c) => if lockable c = true then f (st.set n c) else .no
  | _ => .no
def sLock (i : Nat) (ms : MS) : MS := fun ρ st => match ρ[i]? with
  | some (some (.ref n)) => match st[n]? with
    | some c => if lockable c = true then (match ms ρ (st.set n (.lk c)) with
      | .nx ρ' st' => unlk n st' fun s => .nx ρ' s
      | .bk ρ' st' => unlk n st' fun s => .bk ρ' s
      | .ct ρ' st' => unlk n st' fun s => .ct ρ' s
      | .rt d st' => unlk n st' fun s => .rt d s
      | _ => .no) else .no
    | _ => .no
  | _ => .no
theorem unlk_in {n : Nat} {st : Sto} {f : Sto → SRes} {Z φ : List Addr} {H : Hp} {B : Ends} {W : WX} (h : postS G Z φ H (unlk n st f) B W) : ∃ c, st[n]? = some (.lk c) ∧ lockable c = true ∧ postS G Z φ H (f (st.set n c)) B W := by
  unfold unlk at h
  split at h
  · rename_i c e
    split at h
    · rename_i hl
      exact ⟨c, e, hl, h⟩
    · exact h.elim
  · exact h.elim
theorem sim_lockS {s : Stmt} {ms : MS} (i : Nat) (h : SimS G k Γ s ms) : SimS G k Γ s (sLock i ms) := fun X W C Z φ ρ st σ H B rs re po => by
  unfold sLock at po
  split at po
  · rename_i n e1
    split at po
    · rename_i c e2
      split at po
      · rename_i hl
        obtain ⟨v, hv, rv⟩ := re.2 i _ e1
        cases rv with
        | @ref q _ hq =>
          obtain ⟨u, hu, r⟩ := (lockable_at hl).1.mp (rs.cells n c q e2 hq)
          obtain ⟨hm, hnf⟩ := (lockable_at (q := q) hl).2 u r
          refine wp_ps (ps_lock ps_wp) ⟨q, u, hu, hm, fun od => ?_⟩
          obtain ⟨rs1, mv⟩ := lock_in rs hq r od
          refine h X W C Z φ ρ _ σ _ _ rs1 (re.mv mv) ?_
          split at po
          · rename_i ρ' st' e3
            rw [e3]
            intro φ' H' σ' x' rs' re'
            obtain ⟨c', e4, hl', po⟩ := unlk_in po
            obtain ⟨hf, rs2, mv2, xx⟩ := lock_out hl' hu hnf hq x' rs' e4
            exact ⟨hf, po φ' _ σ' xx rs2 (re'.mv mv2)⟩
          · rename_i ρ' st' e3
            rw [e3]
            intro φ' H' σ' x' rs' re'
            obtain ⟨c', e4, hl', po⟩ := unlk_in po
            obtain ⟨hf, rs2, mv2, xx⟩ := lock_out hl' hu hnf hq x' rs' e4
            exact ⟨hf, po φ' _ σ' xx rs2 (re'.mv mv2)⟩
          · rename_i ρ' st' e3
            rw [e3]
            intro φ' H' σ' x' rs' re'
            obtain ⟨c', e4, hl', po⟩ := unlk_in po
            obtain ⟨hf, rs2, mv2, xx⟩ := lock_out hl' hu hnf hq x' rs' e4
            exact ⟨hf, po φ' _ σ' xx rs2 (re'.mv mv2)⟩
          · rename_i d st' e3
            rw [e3]
            intro φ' H' v' x' rs' rv'
            obtain ⟨c', e4, hl', po⟩ := unlk_in po
            obtain ⟨hf, rs2, mv2, xx⟩ := lock_out hl' hu hnf hq x' rs' e4
            exact ⟨hf, po φ' _ v' xx rs2 (rv'.mv mv2)⟩
          · exact po.elim
      · exact po.elim
    · exact po.elim
  · exact po.elim
def lcell (st : Sto) : D → Option (List (Key × D))
  | .ref n => match st[n]? with
    | some (.lk (.dk kvs)) => some kvs
    | _ => none
  | _ => none
theorem lcell_rd {Z φ : List Addr} {H : Hp} {st : Sto} {v : V} {d : D} {kvs : List (Key × D)} (rs : RS G Z φ st H) (r : Rep G Z φ H v d) (h : lcell st d = some kvs) : ∃ q o ws, v = .ref q ∧ H q = some (.frz o (.dK ws)) ∧ ws.map (·.1) = kvs.map (·.1) ∧ Reps G Z φ H (ws.map (·.2)) (kvs.map (·.2)) := by
  unfold lcell at h
  split at h
  · cases r with
    | @ref q _ hq =>
      split at h
      · rename_i kvs' e1
        cases h
        obtain ⟨o, ws, h1, h2, h3⟩ := rs.lkd e1 hq
        exact ⟨q, o, ws, rfl, h1, h2, h3⟩
      · cases h
  · cases h
def keyOf : Key → D
  | .inl i => .int i
  | .inr x => .str x
def mVals (m : M D) : M (List D) := fun ρ st => (m ρ st).bind fun d st => match lcell st d with
  | some kvs => .ok (kvs.map (·.2)) st
  | none => .no
theorem simi_vals {tg : Expr} {name : Str} (h : SimE G k Γ e m) (hn : name = "values" := by rfl) (hbase : ∀ env : Env, attributeBase e name env (eval e env) = eval e env := by intro _; rfl) (hline : (apos.endLine == cpos.line) = true := by rfl) :
    SimI G k Γ tg (.Call (.Attribute e name apos) [] [] cpos) (mVals m) := fun X W C Z φ ρ st σ H R rs re po => by
  subst hn
  refine wp_pi (pi_values pe_wp (hbase X.env) hline) ?_
  refine h X W C Z φ ρ st σ H _ rs re (post.mono (post.bnd po) fun φ1 H1 d st1 x1 rs1 p1 v rv => ?_)
  split at p1
  · rename_i kvs hk
    obtain ⟨q, o, ws, rfl, g1, g2, g3⟩ := lcell_rd rs1 rv hk
    refine ⟨q, o, ws, rfl, g1, p1.ok rs1 _ fun Z' φ' st' H' x m rs i => ?_⟩
    have hf := x.frz _ _ _ g1
    have g3' := g3.mv m
    have hl : ws.length = kvs.length := by
      have := congrArg List.length g2
      simpa using this
    refine ⟨fun hi => ⟨hf, by rw [List.length_map] at hi; omega⟩, fun d hd => ?_⟩
    obtain ⟨v, hv, rv⟩ := g3'.get hd
    refine ⟨⟨hf, by have := (List.getElem?_eq_some_iff.mp hd).1; simp at this; omega⟩, fun y H'' ⟨eH, key, hy⟩ => ?_⟩
    subst eH
    rw [List.getElem?_map, hy] at hv
    cases hv
    exact ⟨Ext.refl _ _, rs, rv⟩
  · exact p1.elim
end
end Kp

/-! # Kp, 17: len(set(xs)), xs a list or a tuple of tuples of ints -/
namespace Kx
open PySem PySem.Spec PyProof.Rows L2
section
variable {P : Program} {w : World} {A : Around} {E : Value → Shared → Prop} {s : Shared}
set_option maxHeartbeats 3200000 in
theorem kp_set_tup {l : Addr} {items : Array Value} (ks : List (Addr × List Int)) {Q : Value → Shared → Prop} (hHand : A.handled = none) (hTup : s.heap.IsTuple l items) (hItems : items.toList = ks.map fun p => Value.ref p.1)
    (hKeys : ∀ p ∈ ks, IsT P w s.heap p.2 p.1) (hFew : ks.length < 64) (hUn : A.units + 3 < cLine)
    (h : ∀ (h' : Heap) (tk : Nat) L es ep t, SetTR P w h' s.heap.objs.size L es ep t → Got ks ks.length L → (∀ b o, s.heap.get? b = some o → h'.get? b = some o) → Q (.ref s.heap.objs.size) { s with heap := h', toks := tk }) :
    wpAny (model P w) A (call (.type "set") [.ref l]) Q E s := by
  have hSize : items.size = ks.length := by
    have qq := congrArg List.length hItems
    rw [Array.length_toList, List.length_map] at qq
    exact qq
  obtain ⟨c, tl, qMro⟩ := F.called_set.mro
  have qMade := F.called_set.made
  have qSub := F.called_set.sub
  refine wpAny_call (codeAny_of_tree ?_)
  show wpAny _ _ (callAny (.type "set") _) _ _ _
  refine wpAny_pure ⟨Code.quiet_builtin _ (by decide +kernel), codeAny_builtin F.entry_type_call ?_⟩
  rw [Around.under_plain (weight_type_call_type "set" [.ref l] []) rfl]
  have h1 := F.called_set.notType
  have h2 := F.called_set.canCreate
  have qCt := F.typeCall_set_1 (.ref l)
  repeat (any_goals (first | assumption | wp_step))

  refine codeAny_mono (code_set_led1 (.ref l) (E := E) (Q₁ := fun made s₁ => made = .ref s.heap.objs.size ∧ s₁ = { s with heap := s.heap.push { cls := .type "set", dict := none, data := .set #[] 0 (.fresh 0 0 (!w.params.followText "set-order")) } }) ⟨rfl, rfl⟩) fun r s₁ hRes => ?_
  cases r with
  | error e => exact hRes
  | ok fl =>
    cases fl with
    | ret made =>
      obtain ⟨rfl, rfl⟩ := hRes
      have oS : (s.heap.push { cls := .type "set", dict := none, data := .set #[] 0 (.fresh 0 0 (!w.params.followText "set-order")) }).get? s.heap.objs.size = some { cls := .type "set", dict := none, data := .set #[] 0 (.fresh 0 0 (!w.params.followText "set-order")) } := Heap.get?_push_size _ rfl
      have tyS : Shared.TypeIs { s with heap := s.heap.push { cls := .type "set", dict := none, data := .set #[] 0 (.fresh 0 0 (!w.params.followText "set-order")) } } (.ref s.heap.objs.size) "set" := ⟨_, oS, rfl⟩
      have qLi := F.called_set.init.lookup
      have qBi := F.called_set.init.bind (.ref s.heap.objs.size)
      repeat (any_goals (first | assumption | wp_step))

      refine codeAny_mono (codeAny_call_builtin (R := wants (fun r s₂ => r = .none ∧ ∃ h' tk L es ep t, s₂ = { s with heap := h', toks := tk } ∧ SetTR P w h' s.heap.objs.size L es ep t ∧ Got ks ks.length L ∧
          (∀ b o, s.heap.get? b = some o → h'.get? b = some o)) E) F.called_set.init.plain F.entry_set_init (check_set_init_1 tyS ?_)) fun r₂ s₂ hRes2 => ?_
      · obtain ⟨obL, oL, cL, nL, dL⟩ := hTup
        obtain ⟨kC, kD, kX, kS⟩ := obL
        simp only at cL dL
        subst cL; subst dL
        have oL2 : (s.heap.push { cls := .type "set", dict := none, data := .set #[] 0 (.fresh 0 0 (!w.params.followText "set-order")) }).get? l = some { cls := .type "tuple", dict := kD, data := .seq items nL, slots := kS } := Heap.get?_push_of_some _ oL
        have qs1 := F.sub_tuple_set
        have qs2 := F.sub_tuple_frozenset
        have qne : (Value.type "tuple" == Value.type "dict") = false := by decide
        have hTup1 : (s.heap.push { cls := .type "set", dict := none, data := .set #[] 0 (.fresh 0 0 (!w.params.followText "set-order")) }).IsTuple l items := ⟨_, oL2, rfl, nL, rfl⟩
        unfold Builtin.«set.__init__» noKeywords Builtin.Frozenset.updateFrom
        generalize qPI : pyIter = itPI
        wp_walk
        subst qPI

        refine wpAny_pyIter_tuple hTup1 ?_
        refine wpAny_bind (wpAny_runValue ?_)
        have ltS : l < s.heap.objs.size := Heap.lt_size oL
        have hHand3 : A.in1.in1.in1.handled = none := by simp [hHand]
        have sz1 : (s.heap.push { cls := .type "set", dict := none, data := .set #[] 0 (.fresh 0 0 (!w.params.followText "set-order")) }).objs.size = s.heap.objs.size + 1 := Heap.size_push ..
        have neI : l ≠ (s.heap.push { cls := .type "set", dict := none, data := .set #[] 0 (.fresh 0 0 (!w.params.followText "set-order")) }).objs.size := by
          rw [Heap.size_push]; exact Nat.ne_of_lt (Nat.lt_succ_of_lt ltS)
        have notS : s.heap.objs.size ∉ [(s.heap.push { cls := .type "set", dict := none, data := .set #[] 0 (.fresh 0 0 (!w.params.followText "set-order")) }).objs.size, l] := by
          rw [Heap.size_push]; simp only [List.mem_cons, List.mem_singleton, List.not_mem_nil, or_false, not_or]
          exact ⟨Nat.ne_of_lt (Nat.lt_succ_self _), Nat.ne_of_gt ltS⟩
        have valAt : ∀ (i : Nat) (v : Value), items[i]? = some v → ∃ p, ks[i]? = some p ∧ v = .ref p.1 := fun i v hIt => by
          have qq : items.toList[i]? = some v := by rw [Array.getElem?_toList]; exact hIt
          rw [hItems, List.getElem?_map] at qq
          cases hAt : ks[i]? with
          | none => rw [hAt] at qq; cases qq
          | some p =>
            rw [hAt] at qq
            exact ⟨p, rfl, (Option.some.inj qq).symm⟩
        have freeAt : ∀ b, s.heap.objs.size ≤ b → s.heap.get? b = none := fun b hb => by
          cases qq : s.heap.get? b with
          | none => rfl
          | some o => exact absurd (Nat.lt_of_lt_of_le (Heap.lt_size qq) hb) (Nat.lt_irrefl _)
        refine set_update_tups ((Walks.tuple hHand3 _ l neI items).toS) s.heap.objs.size
          notS ks hSize hFew valAt s.heap hKeys (freeAt _ (Nat.le_refl _)) (fun b hb => freeAt b (by
            rw [List.mem_singleton.mp hb, Heap.size_push]
            exact Nat.le_succ _)) hUn (items.size - 0) 0 _ (by omega) (Nat.zero_le _)
          ⟨⟨_, Heap.get?_push_size _ rfl, rfl, rfl⟩, (hTup1.push _)⟩ (fun b o e => Heap.get?_push_of_some _ (Heap.get?_push_of_some _ e)) ?getS0 ?hR
        case getS0 =>
          have getS : ((s.heap.push { cls := .type "set", dict := none, data := .set #[] 0 (.fresh 0 0 (!w.params.followText "set-order")) }).push { cls := .type "tuple_iterator", data := .fields #[.ref l, .int 0 0] }).get? s.heap.objs.size
              = some { cls := .type "set", dict := none, data := .set #[] 0 (.fresh 0 0 (!w.params.followText "set-order")) } := Heap.get?_push_of_some _ oS
          exact ⟨[], #[], 0, _, setTR_fresh getS, Got.zero ks⟩
        case hR =>
          intro s' L es ep t hm hS' g' hkp
          obtain ⟨h', g2, d', tk', os'⟩ := s'
          have eg : g2 = s.gens := hm.gens
          have ed : d' = s.drawn := hm.drawn
          have eo : os' = s.os := hm.os
          subst eg; subst ed; subst eo
          show wpAny _ _ _ _ _ _
          refine wpAny_pure ?_
          show wpAny _ _ (ret Value.none) _ _ _
          rw [hSize] at g'
          exact wpAny_pure ⟨rfl, h', tk', L, es, ep, t, rfl, hS', g', hkp⟩

      · cases r₂ with
        | error e => exact hRes2
        | ok fl₂ =>
          cases fl₂ with
          | ret r =>
            obtain ⟨rfl, h', tk, L, es, ep, t, rfl, hS', g', hk'⟩ := hRes2
            repeat (any_goals (first | assumption | wp_step))
            exact h _ _ _ _ _ _ hS' g' hk'
          | _ => exact hRes2.elim
    | _ => exact hRes.elim

end
end Kx
namespace Kp
open PySem PySem.Spec L2
open PyProof.Rows hiding St
section
variable {G : Gb} {k : Nat} {Γ : Sc} {a : Expr} {pos p p2 q : Pos} {m : M D}
def rowsD : List D → Option (List (List Int))
  | [] => some []
  | .tup xs :: ds => match intsO xs, rowsD ds with
    | some l, some r => some (l :: r)
    | _, _ => none
  | _ :: _ => none
/-- each but once -/
def uniq : List (List Int) → List (List Int)
  | [] => []
  | x :: xs => if x ∈ xs then uniq xs else x :: uniq xs
theorem mem_uniq {x : List Int} : ∀ {xs : List (List Int)}, x ∈ uniq xs ↔ x ∈ xs
  | [] => Iff.rfl
  | y :: xs => by
    unfold uniq
    split
    · rename_i h
      rw [mem_uniq, List.mem_cons]
      exact ⟨.inr, fun z => z.elim (fun e => e ▸ h) id⟩
    · rw [List.mem_cons, List.mem_cons, mem_uniq]
theorem uniq_nd : ∀ {xs : List (List Int)}, (uniq xs).Nodup
  | [] => List.nodup_nil
  | y :: xs => by
    unfold uniq
    split
    · exact uniq_nd
    · rename_i h
      exact List.nodup_cons.mpr ⟨fun z => h (mem_uniq.mp z), uniq_nd⟩
theorem rows_val {Z φ : List Addr} {H : Hp} : ∀ {vs : List V} {ds : List D} {r : List (List Int)}, Reps G Z φ H vs ds → rowsD ds = some r → ∃ ks : List (Addr × List Int), vs = ks.map (fun p => V.ref p.1) ∧ r = ks.map (·.2) ∧ ∀ p ∈ ks, SqT G.K H p.1 (p.2.map V.int)
  | _, _, _, .nil, h => by
    cases h
    exact ⟨[], rfl, rfl, fun _ h => by cases h⟩
  | _, _, _, .cons (ds := ds) r t, h => by
    cases r with
    | tup h1 r1 =>
      unfold rowsD at h
      split at h
      · rename_i l r' e1 e2
        cases h
        obtain ⟨ks, h2, h3, h4⟩ := rows_val t e2
        have e3 := intsO_val r1 e1
        subst e3
        refine ⟨(_, l) :: ks, by rw [List.map_cons, h2], by rw [List.map_cons, h3], fun p hp => ?_⟩
        rcases List.mem_cons.mp hp with z | z
        · rw [z]; exact h1.sq
        · exact h4 p z
      · cases h
    | _ => cases h
theorem perm_len {xs ys : List (List Int)} (h1 : xs.Nodup) (h2 : ys.Nodup) (h : ∀ x, x ∈ xs ↔ x ∈ ys) : xs.length = ys.length := ((List.perm_ext_iff_of_nodup h1 h2).mpr h).length_eq
/-- len(set(xs)), xs of tuples of ints -/
def mLenSet (m : M D) : M D := fun ρ st => (m ρ st).bind fun d st => match seqO st d with
  | some ds => match rowsD ds with
    | some r => if r.length < 64 then .ok (.int ((uniq r).length : Nat)) st else .no
    | none => .no
  | none => .no
theorem sim_lenset {x y : Str} (h : SimE G k Γ a m) (hm : G.mg x = none) (hm2 : G.mg y = none) (hx : x = "len" := by rfl) (hy : y = "set" := by rfl) (hg : GlG Γ x := by rfl) (hg2 : GlG Γ y := by rfl)
    (na : ∀ env : Env, starEach [a] env = (false, eval a env) :: starEach [] env := by intro _; rfl) : SimE G k Γ (.Call (.Name x p) [.Call (.Name y p2) [a] [] q] [] pos) (mLenSet m) := fun X W C Z φ ρ st σ H Q rs re po => by
  subst hx hy
  intro pins s I
  refine Call_ (ld_blt I (C.gl hg) (by rw [C.mg]; exact hm) PySem.boot_len ?_)
  refine PyProof.Rows.callWith_builtin1 (PyProof.Rows.args_cons ?_ rfl) rfl rfl
  refine Call_ (ld_blt I (C.gl hg2) (by rw [C.mg]; exact hm2) PyProof.Rows.boot_set ?_)
  have h1 := h X W C Z φ ρ st σ H (fun v H1 => ∃ (l : Addr) (ks : List (Addr × List Int)), v = .ref l ∧ (SqL G.K H1 l (ks.map fun p => V.ref p.1) ∨ SqT G.K H1 l (ks.map fun p => V.ref p.1)) ∧ (∀ p ∈ ks, SqT G.K H1 p.1 (p.2.map V.int)) ∧ ks.length < 64 ∧ Q (.int ((uniq (ks.map (·.2))).length : Nat)) H1) rs re (post.mono (post.bnd po) fun φ1 H1 d st1 x1 rs1 p1 v rv => by
    split at p1
    · rename_i ds e1
      split at p1
      · rename_i r e2
        split at p1
        · rename_i hl
          obtain ⟨l, vs, rfl, hq, rr⟩ := seqO_val rs1 rv e1
          obtain ⟨ks, rfl, rfl, h4⟩ := rows_val rr e2
          exact ⟨l, ks, rfl, hq, h4, by simpa using hl, p1.ok rs1 _ (.int _)⟩
        · exact p1.elim
      · exact p1.elim
    · exact p1.elim)
  refine PyProof.Rows.callWith_type1 (PyProof.Rows.args_cons (thn (h1 pins s I) fun v s1 ⟨x, H1, I1, r1, l, ks, ex, hq, hk, hl, q1⟩ => PyProof.Rows.args_nil ?_) (na X.env)) (na X.env) rfl
  subst ex
  cases r1
  have fin : ∀ (h' : Heap) (tk : Nat) L es ep t, SetTR X.prog X.w h' s1.heap.objs.size L es ep t → Got ks ks.length L → (∀ b o, s1.heap.get? b = some o → h'.get? b = some o) →
      wpAny (model X.prog X.w) X.A (call (.builtin "len") [.ref s1.heap.objs.size]) (EP X pins σ Q) X.xe { s1 with heap := h', toks := tk } := fun h' tk L es ep t R g kk => by
    obtain ⟨o, ho, hex, hd⟩ := R.ob
    have I2 : Inv X pins σ H1 { s1 with heap := h', toks := tk } := I1.kept fun b o e => kk b o e
    have hz : es.size = L.length := SetTR.size (s := { s1 with heap := h', toks := tk }) R
    have hfew := R.few
    have hn : L.length = (uniq (ks.map (·.2))).length := by
      rw [← List.length_map (f := (·.2)) (as := L)]
      refine perm_len R.nd uniq_nd fun y => ?_
      rw [mem_uniq]
      refine ⟨fun z => ?_, fun z => ?_⟩
      · obtain ⟨p, hp, e⟩ := List.mem_map.mp z
        exact List.mem_map.mpr ⟨p, List.mem_of_mem_take (g.sub p hp), e⟩
      · obtain ⟨p, hp, e⟩ := List.mem_map.mp z
        rw [← e]
        exact g.all p (by rw [List.take_length]; exact hp)
    refine call_len_set ho hex hd (SetTR.fits (s := { s1 with heap := h', toks := tk }) R) (by rw [hz]; omega) ⟨.int ((uniq (ks.map (·.2))).length : Nat), H1, I2.tok _, ⟨_, by rw [hz, hn]⟩, q1⟩
  have isT : ∀ p ∈ ks, IsT X.prog X.w s1.heap p.2 p.1 := fun p hp => I1.isT (by rw [C.K]; exact hk p hp)
  rcases hq with hq | hq
  · obtain ⟨its, rv, pl, hz⟩ := I1.list (by rw [C.K]; exact hq)
    exact call_set_tups (P := X.prog) (w := X.w) ks (I1.ok.hd C.calm) pl.isList (by simpa using refs_of_vals rv) isT hl (by have := C.units; omega) fun h' tk L es ep t R g kk => PyProof.Rows.args_nil (fin h' tk L es ep t R g kk)
  · obtain ⟨its, rv, pl, hz⟩ := I1.tuple (by rw [C.K]; exact hq)
    exact Kx.kp_set_tup (P := X.prog) (w := X.w) ks (I1.ok.hd C.calm) pl (by simpa using refs_of_vals rv) isT hl (by have := C.units; omega) fun h' tk L es ep t R g kk => PyProof.Rows.args_nil (fin h' tk L es ep t R g kk)
end
end Kp

/-! # Kp, 18: operations raise nothing; -x; defs with defaults, defs that call themselves; the end -/
namespace Kp
open PySem PySem.Spec L2
open PyProof.Rows hiding St

theorem nc_add : Calm2 gAdd := fun x y st c d st' h => by unfold gAdd at h; (repeat' split at h) <;> cases h
theorem nc_sub : Calm2 gSub := fun x y st c d st' h => by unfold gSub at h; (repeat' split at h) <;> cases h
theorem nc_mul : Calm2 gMul := fun x y st c d st' h => by unfold gMul at h; (repeat' split at h) <;> cases h
theorem nc_div : Calm2 gDiv := fun x y st c d st' h => by unfold gDiv at h; (repeat' split at h) <;> cases h
theorem nc_mod : Calm2 gMod := fun x y st c d st' h => by unfold gMod at h; (repeat' split at h) <;> cases h
theorem nc_pow : Calm2 gPow := fun x y st c d st' h => by unfold gPow at h; (repeat' split at h) <;> cases h
theorem nc_shl : Calm2 gShl := fun x y st c d st' h => by unfold gShl at h; (repeat' split at h) <;> cases h
theorem nc_shr : Calm2 gShr := fun x y st c d st' h => by unfold gShr at h; (repeat' split at h) <;> cases h
theorem nc_lt : Calm2 gLt := fun x y st c d st' h => by unfold gLt at h; (repeat' split at h) <;> cases h
theorem nc_le : Calm2 gLe := fun x y st c d st' h => by unfold gLe at h; (repeat' split at h) <;> cases h
theorem nc_gt : Calm2 gGt := fun x y st c d st' h => by unfold gGt at h; (repeat' split at h) <;> cases h
theorem nc_ge : Calm2 gGe := fun x y st c d st' h => by unfold gGe at h; (repeat' split at h) <;> cases h
theorem nc_eq : Calm2 gEq := fun x y st c d st' h => by unfold gEq at h; (repeat' split at h) <;> cases h
theorem nc_ne : Calm2 gNe := fun x y st c d st' h => by unfold gNe at h; (repeat' split at h) <;> cases h
theorem nc_is : Calm2 gIs := fun x y st c d st' h => by unfold gIs at h; (repeat' split at h) <;> cases h
theorem nc_isnot : Calm2 gIsNot := fun x y st c d st' h => by unfold gIsNot at h; (repeat' split at h) <;> cases h
theorem nc_in : Calm2 gIn := fun x y st c d st' h => by unfold gIn at h; (repeat' split at h) <;> cases h
theorem nc_notin : Calm2 gNotIn := fun x y st c d st' h => by unfold gNotIn at h; (repeat' split at h) <;> cases h
theorem nc_len : Calm1 gLen := fun x st c d st' h => by unfold gLen at h; (repeat' split at h) <;> cases h
theorem nc_abs : Calm1 gAbs := fun x st c d st' h => by unfold gAbs at h; (repeat' split at h) <;> cases h
theorem nc_int : Calm1 gInt := fun x st c d st' h => by unfold gInt at h; (repeat' split at h) <;> cases h
theorem nc_max : Calm1 gMax := fun x st c d st' h => by unfold gMax at h; (repeat' split at h) <;> cases h
theorem nc_min : Calm1 gMin := fun x st c d st' h => by unfold gMin at h; (repeat' split at h) <;> cases h
theorem nc_sum : Calm1 gSum := fun x st c d st' h => by unfold gSum at h; (repeat' split at h) <;> cases h
theorem nc_any : Calm1 gAny := fun x st c d st' h => by unfold gAny at h; (repeat' split at h) <;> cases h
theorem nc_all : Calm1 gAll := fun x st c d st' h => by unfold gAll at h; (repeat' split at h) <;> cases h
theorem nc_tuple : Calm1 gTuple := fun x st c d st' h => by unfold gTuple at h; (repeat' split at h) <;> cases h
theorem nc_list : Calm1 gList := fun x st c d st' h => by unfold gList at h; (repeat' split at h) <;> cases h
theorem nc_sorted : Calm1 gSorted := fun x st c d st' h => by unfold gSorted at h; (repeat' split at h) <;> cases h
theorem nc_append : CalmM gAppend := fun x xs st c d st' h => by unfold gAppend at h; (repeat' split at h) <;> cases h
theorem nc_pop : CalmM gPop := fun x xs st c d st' h => by unfold gPop at h; (repeat' split at h) <;> cases h
theorem nc_index : CalmM gIndex := fun x xs st c d st' h => by unfold gIndex at h; (repeat' split at h) <;> cases h
section
variable {G : Gb} {k : Nat} {Γ : Sc} {a : Expr} {pos : Pos} {m : M D}
def mNeg (m : M D) : M D := fun ρ st => (m ρ st).bind fun d st => match d with
  | .int i => .ok (.int (-i)) st
  | _ => .no
theorem sim_neg (h : SimE G k Γ a m) : SimE G k Γ (.UnaryOp .USub a pos) (mNeg m) := fun X W C Z φ ρ st σ H Q rs re po =>
  wp_pe (pe_un un_neg pe_wp) (h X W C Z φ ρ st σ H _ rs re (post.mono (post.bnd po) fun φ1 H1 d st1 x1 rs1 p1 v rv => by
    split at p1
    · cases rv
      exact ⟨_, rfl, p1.ok rs1 _ (.int _)⟩
    · exact p1.elim))
theorem DefAt.of {K : PySem.W.Frag} {x : Str} {st : Stmt} {f : Addr} {oc : Value} {od an : Option Addr} {osl : Array (Option Value)} {kV doc pm cdv ct : Value} (a : PySem.W.nsIn K mainGlobals x = some (some (.ref f)))
    (l : K.lookup f = some ⟨oc, od, .func (PySem.W.fnOf x x (defArgs st) (defBody st) (defScope st) .none kV doc pm an cdv ct), osl⟩) (c : PySem.W.codeIn K cdv x = true) (kp : PySem.W.keepIn K (.ref f) = true) : DefAt K x st :=
  ⟨f, oc, od, an, osl, kV, doc, pm, cdv, ct, a, l, c, kp⟩
/-- a def with defaults, that stand in a tuple -/
structure DefDAt (K : PySem.W.Frag) (x : Str) (st : Stmt) (dvs : List V) : Prop where
  ex : ∃ (f : Addr) (fd : FuncData), PySem.W.nsIn K mainGlobals x = some (some (.ref f)) ∧ FunD K x x (defArgs st) (defBody st) (defScope st) dvs [] f fd
theorem DefDAt.of {K : PySem.W.Frag} {x : Str} {st : Stmt} {dvs : List V} {its : List Value} {f T : Addr} {oc tc : Value} {od an td : Option Addr} {osl tsl : Array (Option Value)} {n : Nat} {kV doc pm cdv ct : Value} (hd : dvs ≠ []) (r : Vals dvs its) (a : PySem.W.nsIn K mainGlobals x = some (some (.ref f)))
    (l : K.lookup f = some ⟨oc, od, .func (PySem.W.fnOf x x (defArgs st) (defBody st) (defScope st) (.ref T) kV doc pm an cdv ct), osl⟩) (lT : K.lookup T = some ⟨tc, td, .seq its.toArray n, tsl⟩) (c : PySem.W.codeIn K cdv x = true) (kp : PySem.W.keepIn K (.ref f) = true) : DefDAt K x st dvs :=
  ⟨f, _, a, ⟨⟨oc, od, _, kV, doc, pm, an, cdv, ct, osl, rfl, l, c, .inr ⟨hd, T, _, its, n, rfl, lT, rfl, r⟩, .inl rfl⟩, kp⟩⟩
theorem fn_bodyD {x qual : Str} {st : Stmt} {dvs : List V} {f : Addr} {fd : FuncData} {N ps : List Str} {ms : MS} (F : FunD G.K x qual (defArgs st) (defBody st) (defScope st) dvs [] f fd) (S : FnScope N ps (defScope st)) (h : SimSs G k (Sc.of N (defScope st)) (defBody st) ms) : FnU G (k + 1) f fd ps (runF N.length ms) := by
  refine F.ok S (fun vs H Q E h => h.1) fun cdv A outer s H vs Q E hr hsp => ?_
  obtain ⟨hl, Z, φ, sto, ds, rs, r, po⟩ := hsp
  refine ⟨_, pss_wp, h _ (fun cls d _ H => E cls d H) ?_ Z φ (ds.map some ++ List.replicate (N.length - ds.length) none) sto _ H _ rs (start_rep N r) ?_⟩
  · exact { prog := rfl, w := rfl, K := rfl, mg := rfl, base := rfl, N := rfl, nd := S.nd, sc := rfl, fn := rfl, calm := rfl, room := hr, tk := L2N.takes_of rfl rfl rfl rfl, po := passes_of rfl, hs := rfl, hf := rfl }
  · unfold runF at po
    cases e : ms (ds.map some ++ List.replicate (N.length - ds.length) none) sto with
    | nx ρ s2 => rw [e] at po; exact fun φ' H' σ' x rs' _ => po φ' H' x rs' _ .non
    | rt d s2 => rw [e] at po; exact fun φ' H' v x rs' rv => po φ' H' x rs' v rv
    | er c d ρ s2 => rw [e] at po; exact fun φ' H' σ' A' dx v x rs' _ => po φ' H' A' dx v x rs'
    | bk ρ s2 => rw [e] at po; exact po.elim
    | ct ρ s2 => rw [e] at po; exact po.elim
    | no => rw [e] at po; exact po.elim
theorem Fn.ofD {x : Str} {st : Stmt} {N ps : List Str} {ms : MS} {h : Heap} {dvs : List V} {dds : List D} (n j : Nat) (X : G.K.In h) (ns : h.Ns mainGlobals G.mg) (d : DefDAt G.K x st dvs) (S : FnScope N ps (defScope st)) (hd : dvs ≠ []) (hn : n + (dvs.length - j) = ps.length)
    (hb : ∀ (T : Addr) (kV doc pm : Value) (an : Option Addr) (cdv ct : Value) (us its : List Value), us.length = n → its.length = dvs.length →
      ∃ k, bindArgs (PySem.W.fnOf x x (defArgs st) (defBody st) (defScope st) (.ref T) kV doc pm an cdv ct) ⟨us, []⟩ = seqItems? (.ref T) >>= k ∧ k (some its.toArray) = pure (ps.zip (us ++ its.drop j)))
    (hr : ∀ Z φ H, Reps G Z φ H (dvs.drop j) dds) (hs : SimSs G k (Sc.of N (defScope st)) (defBody st) ms) : Fn G (k + 1) x ps.length (runF N.length ms) dds := by
  obtain ⟨f, fd, a, F⟩ := d.ex
  obtain ⟨ds, r, b⟩ := F.binds1 n j hd hn hb
  exact ⟨f, fd, ps, ds, dvs.drop j, PySem.W.mg_of X ns a, F.kp, b, r, hr, rfl, fn_bodyD F S hs⟩
/-- a def of which nothing is said -/
theorem Fn.no {x : Str} {st : Stmt} {N ps : List Str} {h : Heap} (X : G.K.In h) (ns : h.Ns mainGlobals G.mg) (d : DefAt G.K x st) (S : FnScope N ps (defScope st))
    (hb : ∀ (kV doc pm : Value) (an : Option Addr) (cdv ct : Value) (us : List Value), us.length = ps.length → bindArgs (PySem.W.fnOf x x (defArgs st) (defBody st) (defScope st) .none kV doc pm an cdv ct) ⟨us, []⟩ = pure (ps.zip us)) :
    Fn G k x ps.length (fun _ _ => .no) [] := by
  obtain ⟨f, oc, od, an, osl, kV, doc, pm, cdv, ct, a, l, c, kp⟩ := d.ex
  have F := fun_mk (st := st) l c kp
  refine ⟨f, _, ps, [], [], PySem.W.mg_of X ns a, kp, F.binds hb, .nil, fun _ _ _ => .nil, rfl, ⟨fun vs H Q E h => h.1, fun A outer s H args us vs Q E hr e0 hb r hsp => ?_⟩⟩
  obtain ⟨_, _, _, _, _, _, _, po⟩ := hsp
  exact po.elim
/-- the law's own promise, from its body -/
theorem law_of {l : PySem.W.OpenLaw} {w : World} {K : PySem.W.Frag} {mg : Str → Option Value} {h : Heap} {fa : Addr} {st : Stmt} {N : List Str} {ms : MS} (X : K.In h) (ns : h.Ns mainGlobals mg) (hfa : mg "law" = some (.ref fa)) (d : DefAt K "law" st) (S : FnScope N [("script" : Str)] (defScope st))
    (hb : ∀ (kV doc pm : Value) (an : Option Addr) (cdv ct : Value) (u : Value), bindArgs (PySem.W.fnOf "law" "law" (defArgs st) (defBody st) (defScope st) .none kV doc pm an cdv ct) ⟨[u], []⟩ = pure [(("script" : Str), u)])
    (hs : ∀ base : Heap, K.In base → base.Ns mainGlobals mg → SimSs ⟨l.prog, w, K, mg, base⟩ k (Sc.of N (defScope st)) (defBody st) ms)
    (hm : ∀ nums : List Int, nums.length ≤ 63 → ∃ s, runF N.length ms [.fls (nums.map .int)] [] = .ok (.bl true) s) :
    ∃ fd : FuncData, (∀ (s : Shared) (u : Value), BindsTo s fd ⟨[u], []⟩ [(("script" : Str), u)]) ∧ ∀ base : Heap, K.In base → base.Ns mainGlobals mg → FnOk l.prog w K mg base (L2N.CX l.prog w) (k + 1) fa fd ["script"] (spLaw K) := by
  obtain ⟨f, oc, od, an, osl, kV, doc, pm, cdv, ct, a, lk, c, kp⟩ := d.ex
  have e := hfa.symm.trans (PySem.W.mg_of X ns a)
  cases e
  refine ⟨_, fun s v => .of_eq (hb kV doc pm an cdv ct v), fun base Kb nb => ?_⟩
  have F := fun_mk (st := st) lk c kp
  have U := fn_body (G := ⟨l.prog, w, K, mg, base⟩) F S (hs base Kb nb)
  refine U.imp fun vs H Q E q => ?_
  obtain ⟨a, nums, rfl, only, hs, hl, q⟩ := q
  obtain ⟨st', e⟩ := hm nums hl
  refine ⟨rfl, [], [], [], [.fls (nums.map .int)], ?_, .cons (.fls ?_ (reps_ints nums)) .nil, ?_⟩
  · exact ⟨rfl, List.nodup_nil, fun n c a e => by simp at e, fun a h => by simp at h⟩
  · rcases hs with (hs | hs) | hs
    · rcases only a with z | ⟨o, xs, z⟩
      · rw [hs] at z; cases z
      · rw [hs] at z; cases z
    · exact .inl ⟨hs, by simp⟩
    · exact .inr (.inr hs)
  · rw [e]
    intro φ' H' _ _ v rv
    cases rv
    exact q H'
end
end Kp

/-! # Kp, 19: what the head's facts give -/
namespace Kp
open PySem PySem.Spec L2
open PyProof.Rows hiding St
/-- a name that the top does not bind -/
abbrev Nob (K : PySem.W.Frag) (x : Str) : Prop := PySem.W.nsIn K mainGlobals x = some none
/-- an own error class, from the written part -/
structure ExAt (K : PySem.W.Frag) (P : Program) (c : Str) : Prop where
  ex : ∃ (C fI : Addr) (qual : Str), PySem.W.nsIn K mainGlobals c = some (some (.ref C)) ∧ PySem.W.keepIn K (.ref C) = true ∧ Kx.ExcC K P C fI qual ∧ PySem.W.subIn K (.ref C) (.type "BaseException") = some true ∧ PySem.W.typeIn K (.ref C) = some (.type "type") ∧
    XfC K C ∧ PySem.W.findIn K (.ref C) "at" = some none
open PySem.W in
theorem ExAt.of {K : PySem.W.Frag} {P : Program} {c : Str} {C fI cda cc : Addr} {qual : Str} {oc doc pm ct ccl cl : Value} {od an cdd cld : Option Addr} {osl ccs csl : Array (Option Value)} {p1 p2 q1 q2 q3 q4 q5 q6 q7 q8 q9 q0 : Pos} {vs : Array Value} {file : Str} {tf : Tok}
    (a : PySem.W.nsIn K mainGlobals c = some (some (.ref C))) (kp : PySem.W.keepIn K (.ref C) = true) (hi : PySem.W.findIn K (.ref C) "__init__" = some (some (.ref fI)))
    (l1 : K.lookup fI = some ⟨oc, od, .func (ksFn "__init__" qual (Kx.exA p1 p2) (Kx.exB q1 q2 q3 q4 q5 q6 q7 q8 q9 q0) Kx.exS .none .none doc pm an (.ref cda) ct cc), osl⟩) (c1 : PySem.W.codeIn K (.ref cda) qual = true)
    (l2 : K.lookup cda = some ⟨ccl, cdd, .fields vs, ccs⟩) (v2 : vs[2]? = some (.str file tf)) (fl : ((P.main.file : Str) == file) = true) (l3 : K.lookup cc = some ⟨cl, cld, .cell (some (.ref C)), csl⟩) (se : Kx.SupEq q1 q2 q3 q4 q5)
    (ini : PySem.W.excInitIn K C Kx.veM "ValueError.__new__" = true) (isF : PySem.W.isFn K (.ref fI) = true) (over : PySem.W.excOver K C Kx.veM = true) (st : PySem.W.findIn K (.ref C) "__setattr__" = some (some (.builtin "object.__setattr__")))
    (tk : PySem.W.takerIn K C "at" = some none) (hd : PySem.W.hasDictIn K C = true) (sup : ks_superIn K C C "__init__" = some (some (.builtin "ValueError.__init__"))) (cls : (PySem.W.clsIn K C).isSome = true) (sub : PySem.W.subIn K (.ref C) (.type "ValueError") = some true)
    (own : PySem.W.mroIn K C (.ref C) = some true) (opq : PySem.W.nsIn K cStatics "thirdparty.any" = some none) (noS : (P.main.scope.names.lookup ("super" : Str)).isSome = false)
    (b1 : PySem.W.subIn K (.ref C) (.type "BaseException") = some true) (b2 : PySem.W.typeIn K (.ref C) = some (.type "type")) (xf : xfB K C = true) (at_ : PySem.W.findIn K (.ref C) "at" = some none) : ExAt K P c :=
  ⟨C, fI, qual, a, kp, ⟨ini, hi, isF, over, st, tk, hd, sup, cls, sub, own, opq, noS, oc, od, doc, pm, an, cda, cc, ct, osl, p1, p2, q1, q2, q3, q4, q5, q6, q7, q8, q9, q0, ccl, cl, cdd, cld, ccs, csl, vs, file, tf, l1, c1, l2, v2, fl, l3, se⟩, b1, b2, xfB_ok xf, at_⟩
section
variable {G : Gb} {h : Heap}
theorem ExAt.ex' {c : Str} (e : ExAt G.K G.P c) (X : G.K.In h) (ns : h.Ns mainGlobals G.mg) (s : Nob G.K "super") : Ex G c := by
  obtain ⟨C, fI, qual, a, kp, T, b1, b2, xf, at_⟩ := e.ex
  exact ⟨C, fI, qual, PySem.W.mg_of X ns a, kp, T, PySem.W.mg_none_of X ns s, b1, b2, xf, at_⟩
/-- the classes, for a clause: the caught and the raised -/
structure CatAt (K : PySem.W.Frag) (cn c : Str) (b : Bool) : Prop where
  ex : ∃ C A, PySem.W.nsIn K mainGlobals cn = some (some (.ref C)) ∧ PySem.W.nsIn K mainGlobals c = some (some (.ref A)) ∧ PySem.W.exmOne K (.ref A) (.ref C) = some b
theorem CatAt.of {K : PySem.W.Frag} {cn c : Str} {b : Bool} {C A : Addr} (a1 : PySem.W.nsIn K mainGlobals cn = some (some (.ref C))) (a2 : PySem.W.nsIn K mainGlobals c = some (some (.ref A))) (e : PySem.W.exmOne K (.ref A) (.ref C) = some b) : CatAt K cn c b := ⟨C, A, a1, a2, e⟩
/-- one class that is raised -/
theorem Cat.one {cn c : Str} {b : Bool} {f : Str → Option Bool} (X : G.K.In h) (ns : h.Ns mainGlobals G.mg) (e : CatAt G.K cn c b) (hf : ∀ x, f x = if cn = cn ∧ x = c then some b else none) : Cat G cn f := by
  obtain ⟨C, A, a1, a2, e0⟩ := e.ex
  refine ⟨C, PySem.W.mg_of X ns a1, fun x b' A' hb hA => ?_⟩
  rw [hf] at hb
  split at hb
  · rename_i hc
    cases hb
    obtain ⟨_, rfl⟩ := hc
    have e2 := PySem.W.mg_of X ns a2
    rw [e2] at hA
    cases hA
    exact e0
  · cases hb
end
end Kp

/-! # Kp, 20: mirrors are carried out -/
namespace Kp
open PySem PySem.Spec L2
section
variable {ρ : En} {st : Sto} {m ma mb mc : M D} {ml : M (List D)} {mt mu : M Bool} {g g' : D → D → Sto → Res D} {ms ns : MS} {t : MT}
@[simp] theorem xC {d : D} : mC d ρ st = .ok d st := rfl
@[simp] theorem xOp : mOp g ma mb ρ st = (ma ρ st).bind fun x st => (mb ρ st).bind fun y st => g x y st := rfl
@[simp] theorem xCons' : mCons m ml ρ st = (m ρ st).bind fun x st => (ml ρ st).bind fun xs st => .ok (x :: xs) st := rfl
@[simp] theorem xNl : mNil ρ st = .ok [] st := rfl
@[simp] theorem xPure : mPure ml ρ st = (ml ρ st).bind fun ds st => .ok (.lst ds) st := rfl
@[simp] theorem xBox : mBox ml ρ st = (ml ρ st).bind fun ds st => .ok (.ref st.length) (st ++ [.lst ds]) := rfl
@[simp] theorem xLst : mLst ml ρ st = (ml ρ st).bind fun xs st => if xs.length ≤ szMax then .ok xs st else .no := rfl
@[simp] theorem xTp : mTup ml ρ st = (ml ρ st).bind fun xs st => if xs.length ≤ szMax then .ok (.tup xs) st else .no := rfl
@[simp] theorem xCall {f : List D → Sto → Res D} : mCall f ml ρ st = (ml ρ st).bind f := rfl
@[simp] theorem xCallF {f : List D → Sto → Res (List D)} : mCallF f ml ρ st = (ml ρ st).bind f := rfl
@[simp] theorem xFn {n : Nat} {f : List D → Sto → Res D} {dds : List D} : mFn n f dds ml ρ st = (ml ρ st).bind fun ds st => if (ds ++ dds).length = n then f (ds ++ dds) st else .no := rfl
@[simp] theorem xIf : mIf mt ma mb ρ st = (mt ρ st).bind fun b st => if b = true then ma ρ st else mb ρ st := rfl
@[simp] theorem xB : mB m ρ st = (m ρ st).bind asB := rfl
@[simp] theorem xAsB {b : Bool} : asB (.bl b) st = .ok b st := rfl
@[simp] theorem xNotT : mNotT mt ρ st = (mt ρ st).bind fun b st => .ok (!b) st := rfl
@[simp] theorem xAndT : mAndT mt mu ρ st = (mt ρ st).bind fun b st => if b = true then mu ρ st else .ok false st := rfl
@[simp] theorem xOrT : mOrT mt mu ρ st = (mt ρ st).bind fun b st => if b = true then .ok true st else mu ρ st := rfl
@[simp] theorem xAnd : mAnd ma mb ρ st = (mB ma ρ st).bind fun b st => if b = true then mb ρ st else .ok (.bl false) st := rfl
@[simp] theorem xOr : mOr ma mb ρ st = (mB ma ρ st).bind fun b st => if b = true then .ok (.bl true) st else mb ρ st := rfl
@[simp] theorem xNot : mNot ma ρ st = (mB ma ρ st).bind fun b st => .ok (.bl (!b)) st := rfl
@[simp] theorem xNeg : mNeg m ρ st = (m ρ st).bind fun d st => match d with | .int i => .ok (.int (-i)) st | _ => .no := rfl
@[simp] theorem xChain : mChain g g' ma mb mc ρ st = (ma ρ st).bind fun x st => (mb ρ st).bind fun y st => ((g x y st).bind asB).bind fun t st => if t = true then (mc ρ st).bind fun z st => g' y z st else .ok (.bl false) st := rfl
/-- one statement, then more -/
def andThen (r : SRes) (ns : MS) : SRes := match r with
  | .nx ρ st => ns ρ st
  | r => r
@[simp] theorem at_nx {ρ : En} {st : Sto} : andThen (.nx ρ st) ns = ns ρ st := rfl
@[simp] theorem at_rt {d : D} {st : Sto} : andThen (.rt d st) ns = .rt d st := rfl
@[simp] theorem at_er {c : Str} {d : D} : andThen (.er c d ρ st) ns = .er c d ρ st := rfl
@[simp] theorem xSeqS : sSeq ms ns ρ st = andThen (ms ρ st) ns := rfl
/-- a value is stored -/
def stored (r : Option (En × Sto)) : SRes := match r with
  | some (ρ, st) => .nx ρ st
  | none => .no
@[simp] theorem st_some {ρ : En} {st : Sto} : stored (some (ρ, st)) = .nx ρ st := rfl
@[simp] theorem xAs : sAs t m ρ st = eb (m ρ st) ρ fun d st => stored (t d ρ st) := rfl
@[simp] theorem xName {i : Nat} {d : D} : tName i d ρ st = some (ρ.set i (some d), st) := rfl
theorem xTupT {n : Nat} {ts : List D → En → Sto → Option (En × Sto)} {ds : List D} (h : ds.length = n) : tTup n ts (.tup ds) ρ st = ts ds ρ st := by unfold tTup; simp only [h, if_true]
@[simp] theorem xTN : tNil [] ρ st = some (ρ, st) := rfl
@[simp] theorem xTC {t : MT} {ts : List D → En → Sto → Option (En × Sto)} {d : D} {ds : List D} : tCons t ts (d :: ds) ρ st = (t d ρ st).bind fun x => ts ds x.1 x.2 := rfl
/-- what a def answers -/
def ended (r : SRes) : Res D := match r with
  | .nx _ st => .ok .non st
  | .rt d st => .ok d st
  | .er c d _ st => .er c d st
  | _ => .no
@[simp] theorem en_rt {d : D} : ended (.rt d st) = .ok d st := rfl
@[simp] theorem en_nx : ended (.nx ρ st) = .ok .non st := rfl
@[simp] theorem en_er {c : Str} {d : D} : ended (.er c d ρ st) = .er c d st := rfl
theorem run_is {n : Nat} {ds : List D} : runF n ms ds st = ended (ms (ds.map some ++ List.replicate (n - ds.length) none) st) := rfl
theorem run_at {n : Nat} {ds : List D} {ρ : En} (h : ds.map some ++ List.replicate (n - ds.length) none = ρ) : runF n ms ds st = ended (ms ρ st) := by rw [run_is, h]
@[simp] theorem xNx : sNx ρ st = .nx ρ st := rfl
@[simp] theorem xRet : sRt m ρ st = eb (m ρ st) ρ fun d st => .rt d st := rfl
@[simp] theorem xExS : sEx m ρ st = eb (m ρ st) ρ fun _ st => .nx ρ st := rfl
@[simp] theorem xIfS : sIf mt ms ns ρ st = eb (mt ρ st) ρ fun b st => if b = true then ms ρ st else ns ρ st := rfl
@[simp] theorem xPar {is : List Nat} : sPar is ml ρ st = eb (ml ρ st) ρ fun ds st => if ds.length = is.length then .nx ((is.zip ds).foldl (fun ρ p => ρ.set p.1 (some p.2)) ρ) st else .no := rfl
@[simp] theorem xSeq : mSeq m ρ st = (m ρ st).bind seqD := rfl
@[simp] theorem xRng {f : List D → Sto → Res (List D)} : mRng f ml ρ st = (ml ρ st).bind f := rfl
@[simp] theorem xEnum : mEnum m ρ st = ((m ρ st).bind seqD).bind fun ds st => .ok (enD 0 ds) st := rfl
@[simp] theorem xFor {mi : M (List D)} : sFor mi t ms ρ st = eb (mi ρ st) ρ fun ds st => forGo t ms ds ρ st := rfl
@[simp] theorem xComp {mi : M (List D)} {vs : List Nat} : mComp mi t mt m vs ρ st = (mi ρ st).bind fun ds st => compGo t mt m vs ρ ds 0 st := rfl
@[simp] theorem xYes : mYes ρ st = .ok true st := rfl
@[simp] theorem xIsi {T : String} : mIsi T m ρ st = (m ρ st).bind fun d st => match tyName st d with | some a => .ok (.bl (subT a T)) st | none => .no := rfl
theorem mVar_at {i : Nat} {d : D} (h : ρ[i]? = some (some d)) : mVar i ρ st = .ok d st := by unfold mVar; rw [h]
@[simp] theorem xV0 {d : D} {ρ : En} : mVar 0 (some d :: ρ) st = .ok d st := rfl
@[simp] theorem xVs {i : Nat} {o : Option D} {ρ : En} : mVar (i + 1) (o :: ρ) st = mVar i ρ st := rfl
/-! operations on ints -/
variable {i j : Int}
@[simp] theorem xadd : gAdd (.int i) (.int j) st = .ok (.int (i + j)) st := rfl
@[simp] theorem xsub : gSub (.int i) (.int j) st = .ok (.int (i - j)) st := rfl
@[simp] theorem xlt : gLt (.int i) (.int j) st = .ok (.bl (decide (i < j))) st := rfl
@[simp] theorem xle : gLe (.int i) (.int j) st = .ok (.bl (decide (i ≤ j))) st := rfl
@[simp] theorem xgt : gGt (.int i) (.int j) st = .ok (.bl (decide (j < i))) st := rfl
@[simp] theorem xge : gGe (.int i) (.int j) st = .ok (.bl (decide (j ≤ i))) st := rfl
theorem xmul (h : mulOk i j) : gMul (.int i) (.int j) st = .ok (.int (i * j)) st := by show (if mulOk i j then _ else _) = _; rw [if_pos h]
theorem xmulL (h : i.natAbs < 2 ^ 64) : gMul (.int i) (.int j) st = .ok (.int (i * j)) st := xmul (.inl h)
theorem xmulR (h : j.natAbs < 2 ^ 64) : gMul (.int i) (.int j) st = .ok (.int (i * j)) st := xmul (.inr (.inl h))
theorem xdiv (h : 0 < j) (h2 : j < 2 ^ 64) : gDiv (.int i) (.int j) st = .ok (.int (i / j)) st := by
  show (if 0 < j ∧ j.natAbs.log2 < 9000 then _ else _) = _
  have h3 : j.natAbs.log2 < 9000 := by
    by_cases z : j.natAbs = 0
    · rw [z]; decide
    · have : j.natAbs.log2 < 64 := (Nat.log2_lt z).mpr (by omega)
      omega
  rw [if_pos ⟨h, h3⟩]
theorem xmod (h : 0 < j) : gMod (.int i) (.int j) st = .ok (.int (i % j)) st := by show (if 0 < j then _ else _) = _; rw [if_pos h]
@[simp] theorem xint : gInt [.int i] st = .ok (.int i) st := rfl
@[simp] theorem xintb {b : Bool} : gInt [.bl b] st = .ok (.int (if b then 1 else 0)) st := rfl
@[simp] theorem xabs : gAbs [.int i] st = .ok (.int (if i < 0 then -i else i)) st := rfl
theorem max2 : (if j > i then j else i) = max i j := by rw [Int.max_def]; split <;> split <;> omega
theorem min2 : (if j < i then j else i) = min i j := by rw [Int.min_def]; split <;> split <;> omega
@[simp] theorem xmax : gMax [.int i, .int j] st = .ok (.int (max i j)) st := by rw [← max2]; rfl
@[simp] theorem xmin : gMin [.int i, .int j] st = .ok (.int (min i j)) st := by rw [← min2]; rfl
@[simp] theorem seqO_lst {ds : List D} : seqO st (.lst ds) = some ds := rfl
@[simp] theorem seqO_tup {ds : List D} : seqO st (.tup ds) = some ds := rfl
@[simp] theorem seqO_fls {ds : List D} : seqO st (.fls ds) = some ds := rfl
theorem seqO_ref {n : Nat} {ds : List D} (h : st[n]? = some (.lst ds)) : seqO st (.ref n) = some ds := by unfold seqO dref; simp only [h]
theorem seqO_lk {n : Nat} {ds : List D} (h : st[n]? = some (.lk (.lst ds))) : seqO st (.ref n) = some ds := by unfold seqO dref; simp only [h]
@[simp] theorem seqD_lst {ds : List D} : seqD (.lst ds) st = .ok ds st := rfl
@[simp] theorem seqD_tup {ds : List D} : seqD (.tup ds) st = .ok ds st := rfl
@[simp] theorem seqD_fls {ds : List D} : seqD (.fls ds) st = .ok ds st := rfl
theorem seqD_ref {n : Nat} {ds : List D} (h : st[n]? = some (.lk (.lst ds))) : seqD (.ref n) st = .ok ds st := by unfold seqD; simp only [h]
theorem xlen {d : D} {ds : List D} (h : seqO st d = some ds) : gLen [d] st = .ok (.int ds.length) st := by
  have hs : ∀ x, d ≠ .str x := fun x z => by subst z; cases h
  unfold gLen
  split
  · rename_i x e
    exact absurd (List.cons.inj e).1 (hs x)
  · rename_i d' e1 e
    have := (List.cons.inj e).1
    subst this
    rw [h]
  · rename_i h1 h2
    exact absurd rfl (h2 d)
@[simp] theorem xlen_lst {ds : List D} : gLen [.lst ds] st = .ok (.int ds.length) st := xlen rfl
@[simp] theorem xlen_tup {ds : List D} : gLen [.tup ds] st = .ok (.int ds.length) st := xlen rfl
@[simp] theorem xlen_fls {ds : List D} : gLen [.fls ds] st = .ok (.int ds.length) st := xlen rfl
theorem xix {x d : D} {ds : List D} {i : Int} (h : seqO st x = some ds) (h2 : L2.atI ds i = some d) : gIx x (.int i) st = .ok d st := by
  have hs : ∀ z, x ≠ .str z := fun z e => by subst e; cases h
  unfold gIx
  dsimp only
  split
  · rename_i z
    exact absurd rfl (hs z)
  · rw [h]
    simp only [h2]
theorem atI_nat {ds : List D} {i : Int} {d : D} (h0 : 0 ≤ i) (h : ds[i.toNat]? = some d) : L2.atI ds i = some d := by
  have hl := (List.getElem?_eq_some_iff.mp h).1
  unfold L2.atI L2.ixN
  rw [if_pos h0, if_pos (by omega), Option.bind_some]
  exact h
theorem set_at {st : Sto} {b : Nat} {u v : Cell} (h : st[b]? = some u) : (st.set b v)[b]? = some v := List.getElem?_set_self (List.getElem?_eq_some_iff.mp h).1
theorem set_ne {st : Sto} {b n : Nat} {v : Cell} (h : b ≠ n) : (st.set b v)[n]? = st[n]? := List.getElem?_set_ne h
theorem compGo_pure {t : MT} {tt : M Bool} {me : M D} {vs : List Nat} {ρ : En} {st : Sto} {α : Type} (g : α → D) (p : α → Bool) (f : α → D) : ∀ (xs : List α) (n : Nat), n + xs.length ≤ szMax →
    (∀ x ∈ xs, ∃ ρ1, t (g x) (wipeE ρ vs) st = some (ρ1, st) ∧ tt ρ1 st = .ok (p x) st ∧ (p x = true → me ρ1 st = .ok (f x) st)) → compGo t tt me vs ρ (xs.map g) n st = .ok ((xs.filter p).map f) st
  | [], _, _, _ => rfl
  | x :: xs, n, hn, h => by
    obtain ⟨ρ1, h1, h2, h3⟩ := h x List.mem_cons_self
    rw [List.length_cons] at hn
    have ih := fun k hk => compGo_pure g p f xs k hk fun y hy => h y (List.mem_cons_of_mem _ hy)
    rw [List.map_cons]
    unfold compGo
    rw [h1]
    dsimp only
    rw [h2, calm_ok, bind_ok]
    cases hp : p x with
    | true =>
      rw [if_pos rfl, h3 hp, calm_ok, bind_ok, if_pos (by omega), ih (n + 1) (by omega), bind_ok, List.filter_cons_of_pos hp, List.map_cons]
    | false =>
      rw [if_neg (by decide), ih n (by omega), List.filter_cons_of_neg (by rw [hp]; decide)]
theorem forGo_nx {t : MT} {body : MS} {α : Type} (g : α → D) (I : Nat → En → Sto → Prop) : ∀ (xs : List α) (k : Nat) (ρ : En) (st : Sto), I k ρ st →
    (∀ j x ρ st, xs[j]? = some x → I (k + j) ρ st → ∃ ρ1 st1 ρ2 st2, t (g x) ρ st = some (ρ1, st1) ∧ body ρ1 st1 = .nx ρ2 st2 ∧ I (k + j + 1) ρ2 st2) → ∃ ρ' st', forGo t body (xs.map g) ρ st = .nx ρ' st' ∧ I (k + xs.length) ρ' st'
  | [], k, ρ, st, h, _ => ⟨ρ, st, rfl, h⟩
  | x :: xs, k, ρ, st, h, hs => by
    obtain ⟨ρ1, st1, ρ2, st2, h1, h2, h3⟩ := hs 0 x ρ st rfl h
    obtain ⟨ρ', st', h4, h5⟩ := forGo_nx g I xs (k + 1) ρ2 st2 h3 fun j y ρ st hy hI => by
      have q := hs (j + 1) y ρ st (by rw [List.getElem?_cons_succ]; exact hy) (by rw [show k + (j + 1) = k + 1 + j by omega]; exact hI)
      rw [show k + (j + 1) + 1 = k + 1 + j + 1 by omega] at q
      exact q
    refine ⟨ρ', st', ?_, by rw [List.length_cons, show k + (xs.length + 1) = k + 1 + xs.length by omega]; exact h5⟩
    rw [List.map_cons]
    unfold forGo
    rw [h1]
    dsimp only
    rw [h2]
    exact h4
theorem xtuple {x : D} {ds : List D} (h : seqO st x = some ds) : gTuple [x] st = .ok (.tup ds) st := by unfold gTuple; simp only [h]
theorem xall {x : D} {bs : List Bool} (h : (lstO st x).bind blsO = some bs) : gAll [x] st = .ok (.bl (bs.all id)) st := by unfold gAll; simp only [h]
theorem xany {x : D} {bs : List Bool} (h : (lstO st x).bind blsO = some bs) : gAny [x] st = .ok (.bl (bs.any id)) st := by unfold gAny; simp only [h]
@[simp] theorem lstO_lst {ds : List D} : lstO st (.lst ds) = some ds := rfl
end
end Kp

namespace Kq
open PySem PySem.Spec L2 Kp
open PyProof.Rows hiding St
/-! ## printed by gen.py: the text's defs, their mirrors -/
def top (i : Nat) : Stmt := PySem.Challenge.pw_keysapart_k56_whole_what_is_kept_too_lon.main.body.getD i (.Pass ⟨0, 0, 0, 0⟩)
abbrev s__law_box : Stmt := top 19
theorem sc__law_box : FnScope ["script", "k", "cell"] ["script", "k"] (defScope s__law_box) := ⟨rfl, rfl, rfl, by decide +kernel, rfl, by decide +kernel, by decide +kernel⟩
abbrev s__law_take : Stmt := top 16
theorem sc__law_take : FnScope ["box", "many", "raw", "digit"] ["box", "many"] (defScope s__law_take) := ⟨rfl, rfl, rfl, by decide +kernel, rfl, by decide +kernel, by decide +kernel⟩
abbrev s__law_pick : Stmt := top 17
theorem sc__law_pick : FnScope ["box", "some"] ["box", "some"] (defScope s__law_pick) := ⟨rfl, rfl, rfl, by decide +kernel, rfl, by decide +kernel, by decide +kernel⟩
abbrev s__law_numbers : Stmt := top 22
theorem sc__law_numbers : FnScope ["box"] ["box"] (defScope s__law_numbers) := ⟨rfl, rfl, rfl, by decide +kernel, rfl, by decide +kernel, by decide +kernel⟩
abbrev s__law_same : Stmt := top 20
theorem sc__law_same : FnScope ["value", "due", "at"] ["value", "due"] (defScope s__law_same) := ⟨rfl, rfl, rfl, by decide +kernel, rfl, by decide +kernel, by decide +kernel⟩
abbrev s__law_has : Stmt := top 21
theorem sc__law_has : FnScope ["d", "r", "q", "own", "i", "rows", "masks", "pens", "j"] ["d", "r", "q", "own", "i"] (defScope s__law_has) := ⟨rfl, rfl, rfl, by decide +kernel, rfl, by decide +kernel, by decide +kernel⟩
abbrev s_kept : Stmt := top 9
theorem sc_kept : FnScope ["d", "r", "q"] ["d", "r", "q"] (defScope s_kept) := ⟨rfl, rfl, rfl, by decide +kernel, rfl, by decide +kernel, by decide +kernel⟩
abbrev s_pens_from : Stmt := top 5
theorem sc_pens_from : FnScope ["d", "r", "own"] ["d", "r", "own"] (defScope s_pens_from) := ⟨rfl, rfl, rfl, by decide +kernel, rfl, by decide +kernel, by decide +kernel⟩
abbrev s_counts_at : Stmt := top 6
theorem sc_counts_at : FnScope ["d", "r", "q", "own", "i"] ["d", "r", "q", "own", "i"] (defScope s_counts_at) := ⟨rfl, rfl, rfl, by decide +kernel, rfl, by decide +kernel, by decide +kernel⟩
abbrev s_first_own : Stmt := top 7
theorem sc_first_own : FnScope ["r", "i"] ["r", "i"] (defScope s_first_own) := ⟨rfl, rfl, rfl, by decide +kernel, rfl, by decide +kernel, by decide +kernel⟩
abbrev s_last_own : Stmt := top 8
theorem sc_last_own : FnScope ["d", "r", "q", "i"] ["d", "r", "q", "i"] (defScope s_last_own) := ⟨rfl, rfl, rfl, by decide +kernel, rfl, by decide +kernel, by decide +kernel⟩
abbrev s__law_counts : Stmt := top 23
theorem sc__law_counts : FnScope ["box", "i", "owns", "own", "most", "d", "r", "q", "pens", "j", "k"] ["box"] (defScope s__law_counts) := ⟨rfl, rfl, rfl, by decide +kernel, rfl, by decide +kernel, by decide +kernel⟩
abbrev s__law_part : Stmt := top 18
theorem sc__law_part : FnScope ["box", "lot", "many", "left", "x"] ["box", "lot", "many"] (defScope s__law_part) := ⟨rfl, rfl, rfl, by decide +kernel, rfl, by decide +kernel, by decide +kernel⟩
abbrev s_counted_long : Stmt := top 10
theorem sc_counted_long : FnScope ["lots", "d", "r", "q", "looks", "found", "i", "lot", "x", "y", "own"] ["lots", "d", "r", "q", "looks"] (defScope s_counted_long) := ⟨rfl, rfl, rfl, by decide +kernel, rfl, by decide +kernel, by decide +kernel⟩
abbrev s_is_spread : Stmt := top 11
theorem sc_is_spread : FnScope ["looks", "l", "owns", "x", "own", "houses"] ["looks", "l"] (defScope s_is_spread) := ⟨rfl, rfl, rfl, by decide +kernel, rfl, by decide +kernel, by decide +kernel⟩
abbrev s__law_lots : Stmt := top 24
theorem sc__law_lots : FnScope ["box", "course", "i", "looks", "k", "due", "l", "most", "spread", "d", "r", "q", "x", "y", "own", "other"] ["box"] (defScope s__law_lots) := ⟨rfl, rfl, rfl, by decide +kernel, rfl, by decide +kernel, by decide +kernel⟩
abbrev s_worst_looks : Stmt := top 12
theorem sc_worst_looks : FnScope ["k", "l", "d", "r", "q", "i", "first", "last", "x"] ["k", "l", "d", "r", "q", "i"] (defScope s_worst_looks) := ⟨rfl, rfl, rfl, by decide +kernel, rfl, by decide +kernel, by decide +kernel⟩
abbrev s_kept_copies : Stmt := top 14
theorem sc_kept_copies : FnScope ["f", "l", "d", "r", "q", "by_time"] ["f", "l", "d", "r", "q", "by_time"] (defScope s_kept_copies) := ⟨rfl, rfl, rfl, by decide +kernel, rfl, by decide +kernel, by decide +kernel⟩
abbrev s_most_counted : Stmt := top 13
theorem sc_most_counted : FnScope ["k", "f", "l", "d", "r", "q"] ["k", "f", "l", "d", "r", "q"] (defScope s_most_counted) := ⟨rfl, rfl, rfl, by decide +kernel, rfl, by decide +kernel, by decide +kernel⟩
abbrev s__law_worst : Stmt := top 25
theorem sc__law_worst : FnScope ["box", "i", "owns", "looks", "count", "most", "by_time", "d", "r", "q", "k", "f", "l", "least", "own", "x", "j", "one", "y", "other"] ["box"] (defScope s__law_worst) := ⟨rfl, rfl, rfl, by decide +kernel, rfl, by decide +kernel, by decide +kernel⟩
abbrev s__law_far : Stmt := top 26
theorem sc__law_far : FnScope ["box", "i", "e", "d", "r"] ["box"] (defScope s__law_far) := ⟨rfl, rfl, rfl, by decide +kernel, rfl, by decide +kernel, by decide +kernel⟩
abbrev s_law : Stmt := top 27
theorem sc_law : FnScope ["script", "k", "box"] ["script"] (defScope s_law) := ⟨rfl, rfl, rfl, by decide +kernel, rfl, by decide +kernel, by decide +kernel⟩
/-- which of the raised errors the clause catches -/
def catOf (cn : Str) : Str → Option Bool := fun c =>
  if cn = "Refused" ∧ c = "Refused" then some true else none
def m__law_box : MS :=
  (sSeq (sAs (tName 2) (mOp gAdd (mOp gMul (mC (.int 6007)) (mVar 1)) (mC (.int 2061))))
  (sSeq (sIf (mB (mOp gLt (mVar 1) (mCall gLen (mCons (mVar 0) mNil)))) (sAs (tName 2) (mOp gMod (mCall gInt (mCons (mCall gAbs (mCons (mOp gIx (mVar 0) (mVar 1)) mNil)) mNil)) (mOp gMul (mOp gMul (mOp gPow (mC (.int 10)) (mC (.int 60))) (mOp gPow (mC (.int 10)) (mC (.int 60)))) (mOp gPow (mC (.int 10)) (mC (.int 60)))))) (sIf (mB (mOp gGt (mCall gLen (mCons (mVar 0) mNil)) (mC (.int 0)))) (sAs (tName 2) (mOp gAdd (mVar 2) (mOp gMul (mOp gMod (mCall gInt (mCons (mCall gAbs (mCons (mOp gIx (mVar 0) (mOp gMod (mCall gInt (mCons (mVar 1) mNil)) (mCall gLen (mCons (mVar 0) mNil)))) mNil)) mNil)) (mC (.int 2147483629))) (mC (.int 60017))))) sNx))
  (sRt (mBox (mLst (mCons (mOp gIx (mPure (mLst (mCons (mC (.int 0)) (mCons (mVar 2) mNil)))) (mCall gInt (mCons (mOp gGe (mVar 2) (mOp gPow (mC (.int 10)) (mC (.int 18)))) mNil))) (mCons (mOp gAdd (mOp gMod (mCall gInt (mCons (mOp gAdd (mOp gMul (mOp gMod (mCall gInt (mCons (mVar 2) mNil)) (mC (.int 2147483629))) (mC (.int 30013))) (mOp gMul (mC (.int 47057)) (mVar 1))) mNil)) (mC (.int 2147483629))) (mC (.int 1))) (mCons (mC (.int 0)) mNil))))))))
def f__law_box : List D → Sto → Res D := runF 3 m__law_box
def m__law_take : MS :=
  (sSeq (sIf (mB (mOp gGt (mOp gIx (mVar 0) (mC (.int 0))) (mC (.int 0)))) (sSeq (sAs (tName 3) (mOp gMod (mCall gInt (mCons (mOp gIx (mVar 0) (mC (.int 0))) mNil)) (mVar 1)))
  (sSeq (sAs (tPut (mVar 0) (mC (.int 0))) (mOp gDiv (mOp gIx (mVar 0) (mC (.int 0))) (mVar 1)))
  (sRt (mVar 3)))) sNx)
  (sSeq (sAs (tPut (mVar 0) (mC (.int 2))) (mOp gAdd (mOp gIx (mVar 0) (mC (.int 2))) (mC (.int 1))))
  (sSeq (sAs (tName 2) (mOp gMod (mCall gInt (mCons (mOp gAdd (mOp gMul (mOp gAdd (mOp gIx (mVar 0) (mC (.int 1))) (mOp gMul (mC (.int 70003)) (mOp gIx (mVar 0) (mC (.int 2))))) (mC (.int 50051))) (mC (.int 307))) mNil)) (mC (.int 2147483543))))
  (sSeq (sAs (tPut (mVar 0) (mC (.int 1))) (mOp gAdd (mOp gMod (mCall gInt (mCons (mOp gAdd (mOp gMul (mVar 2) (mC (.int 40013))) (mC (.int 30011))) mNil)) (mC (.int 2147483629))) (mC (.int 1))))
  (sRt (mOp gMod (mCall gInt (mCons (mOp gDiv (mOp gAdd (mOp gMul (mVar 2) (mC (.int 2147483647))) (mOp gIx (mVar 0) (mC (.int 1)))) (mC (.int 4099))) mNil)) (mVar 1)))))))
def f__law_take : List D → Sto → Res D := runF 4 m__law_take
def m__law_pick : MS :=
  (sRt (mOp gIx (mVar 1) (mFn 2 f__law_take [] (mCons (mVar 0) (mCons (mCall gLen (mCons (mVar 1) mNil)) mNil)))))
def f__law_pick : List D → Sto → Res D := runF 2 m__law_pick
def m__law_numbers : MS :=
  (sRt (mTup (mCons (mFn 2 f__law_take [] (mCons (mVar 0) (mCons (mC (.int 10)) mNil))) (mCons (mOp gAdd (mC (.int 1)) (mFn 2 f__law_take [] (mCons (mVar 0) (mCons (mC (.int 9)) mNil)))) (mCons (mFn 2 f__law_pick [] (mCons (mVar 0) (mCons (mPure (mLst (mCons (mC (.int 0)) (mCons (mC (.int 0)) (mCons (mC (.int 1)) (mCons (mFn 2 f__law_take [] (mCons (mVar 0) (mCons (mC (.int 10)) mNil))) mNil)))))) mNil))) mNil)))))
def f__law_numbers : List D → Sto → Res D := runF 1 m__law_numbers
def m__law_same (rec : List D → Sto → Res D) : MS :=
  (sSeq (sIf (mOrT (mB (mOp gIs (mVar 1) (mC .non))) (mOrT (mB (mOp gIs (mVar 1) (mC (.bl true)))) (mB (mOp gIs (mVar 1) (mC (.bl false)))))) (sRt (mOp gIx (mPure (mLst (mCons (mOp gIs (mVar 0) (mC .non)) (mCons (mOp gIs (mVar 0) (mC (.bl true))) (mCons (mOp gIs (mVar 0) (mC (.bl false))) mNil))))) (mMtT "list" gIndex (mPure (mLst (mCons (mC .non) (mCons (mC (.bl true)) (mCons (mC (.bl false)) mNil))))) (mCons (mVar 1) mNil)))) sNx)
  (sSeq (sIf (mB (mIsi "str" (mVar 1))) (sRt (mAnd (mIsi "str" (mVar 0)) (mOp gEq (mVar 0) (mVar 1)))) sNx)
  (sSeq (sIf (mB (mIsi "int" (mVar 1))) (sRt (mAnd (mIsi "int" (mVar 0)) (mAnd (mNot (mIsi "bool" (mVar 0))) (mOp gEq (mVar 0) (mVar 1))))) sNx)
  (sSeq (sIf (mOrT (mNotT (mB (mIsi "tuple" (mVar 0)))) (mB (mOp gNe (mCall gLen (mCons (mVar 0) mNil)) (mCall gLen (mCons (mVar 1) mNil))))) (sRt (mC (.bl false))) sNx)
  (sRt (mCall gAll (mCons (mPure (mComp (mRng rng1 (mCons (mCall gLen (mCons (mVar 1) mNil)) mNil)) (tName 2) mYes (mFn 2 rec [] (mCons (mOp gIx (mVar 0) (mVar 2)) (mCons (mOp gIx (mVar 1) (mVar 2)) mNil))) [2])) mNil)))))))
def f__law_same : Nat → List D → Sto → Res D
  | 0 => fun _ _ => .no
  | n + 1 => runF 3 (m__law_same (f__law_same n))
def m__law_has : MS :=
  (sSeq (sAs (tName 5) (mPure (mComp (mRng rng2 (mCons (mCall gMax (mCons (mC (.int 0)) (mCons (mOp gSub (mVar 3) (mVar 0)) mNil))) (mCons (mOp gAdd (mVar 3) (mC (.int 1))) mNil))) (tName 8) mYes (mVar 8) [8])))
  (sSeq (sAs (tName 6) (mPure (mComp (mRng rng2 (mCons (mCall gMax (mCons (mC (.int 0)) (mCons (mOp gSub (mOp gSub (mVar 3) (mVar 0)) (mVar 2)) mNil))) (mCons (mOp gAdd (mVar 3) (mC (.int 1))) mNil))) (tName 8) mYes (mVar 8) [8])))
  (sSeq (sAs (tName 7) (mPure (mComp (mSeq (mVar 5)) (tName 8) mYes (mOp gDiv (mVar 8) (mVar 1)) [8])))
  (sRt (mOr (mOp gIn (mVar 4) (mVar 5)) (mOr (mOp gIn (mVar 4) (mVar 6)) (mOp gIn (mOp gDiv (mVar 4) (mVar 1)) (mVar 7))))))))
def f__law_has : List D → Sto → Res D := runF 9 m__law_has
def m_kept : MS :=
  (sRt (mOp gAdd (mOp gAdd (mVar 0) (mVar 1)) (mVar 2)))
def f_kept : List D → Sto → Res D := runF 3 m_kept
def m_pens_from : MS :=
  (sRt (mOp gMul (mVar 1) (mOp gDiv (mCall gMax (mCons (mC (.int 0)) (mCons (mOp gSub (mVar 2) (mVar 0)) mNil))) (mVar 1))))
def f_pens_from : List D → Sto → Res D := runF 3 m_pens_from
def m_counts_at : MS :=
  (sRt (mOr (mChain gLe gLe (mVar 4) (mVar 3) (mOp gAdd (mOp gAdd (mVar 4) (mVar 0)) (mVar 2))) (mChain gLe gLt (mFn 3 f_pens_from [] (mCons (mVar 0) (mCons (mVar 1) (mCons (mVar 3) mNil)))) (mVar 4) (mOp gAdd (mOp gMul (mVar 1) (mOp gDiv (mVar 3) (mVar 1))) (mVar 1)))))
def f_counts_at : List D → Sto → Res D := runF 5 m_counts_at
def m_first_own : MS :=
  (sRt (mOp gMul (mVar 0) (mOp gDiv (mVar 1) (mVar 0))))
def f_first_own : List D → Sto → Res D := runF 2 m_first_own
def m_last_own : MS :=
  (sRt (mCall gMax (mCons (mOp gAdd (mOp gAdd (mVar 3) (mVar 0)) (mVar 2)) (mCons (mOp gAdd (mOp gSub (mOp gAdd (mOp gMul (mVar 1) (mOp gDiv (mVar 3) (mVar 1))) (mVar 1)) (mC (.int 1))) (mVar 0)) mNil))))
def f_last_own : List D → Sto → Res D := runF 4 m_last_own
def m__law_counts : MS :=
  (sSeq (sAs (tTup 3 (tCons (tName 5) (tCons (tName 6) (tCons (tName 7) tNil)))) (mFn 1 f__law_numbers [] (mCons (mVar 0) mNil)))
  (sSeq (sAs (tName 1) (mFn 2 f__law_take [] (mCons (mVar 0) (mCons (mC (.int 30)) mNil))))
  (sSeq (sAs (tName 2) (mPure (mComp (mRng rng1 (mCons (mOp gAdd (mOp gAdd (mOp gAdd (mOp gAdd (mVar 1) (mVar 5)) (mVar 6)) (mVar 7)) (mC (.int 4))) mNil)) (tName 3) (mB (mFn 5 f__law_has [] (mCons (mVar 5) (mCons (mVar 6) (mCons (mVar 7) (mCons (mVar 3) (mCons (mVar 1) mNil))))))) (mVar 3) [3])))
  (sSeq (sFor (mRng rng1 (mCons (mOp gAdd (mOp gAdd (mOp gAdd (mOp gAdd (mVar 1) (mVar 5)) (mVar 6)) (mVar 7)) (mC (.int 4))) mNil)) (tName 3) (sSeq (sIf (mNotT (mB (mFn 2 (f__law_same 8) [] (mCons (mFn 5 f_counts_at [] (mCons (mVar 5) (mCons (mVar 6) (mCons (mVar 7) (mCons (mVar 3) (mCons (mVar 1) mNil)))))) (mCons (mOp gIn (mVar 3) (mVar 2)) mNil))))) (sRt (mC (.bl false))) sNx)
  (sSeq (sAs (tName 8) (mPure (mComp (mRng rng1 (mCons (mOp gAdd (mVar 3) (mC (.int 1))) mNil)) (tName 9) (mB (mOp gIn (mOp gDiv (mVar 9) (mVar 6)) (mPure (mComp (mRng rng2 (mCons (mCall gMax (mCons (mC (.int 0)) (mCons (mOp gSub (mVar 3) (mVar 5)) mNil))) (mCons (mOp gAdd (mVar 3) (mC (.int 1))) mNil))) (tName 10) mYes (mOp gDiv (mVar 10) (mVar 6)) [10])))) (mVar 9) [9])))
  (sIf (mNotT (mB (mFn 2 (f__law_same 8) [] (mCons (mFn 3 f_pens_from [] (mCons (mVar 5) (mCons (mVar 6) (mCons (mVar 3) mNil)))) (mCons (mOp gIx (mVar 8) (mC (.int 0))) mNil))))) (sRt (mC (.bl false))) sNx))))
  (sSeq (sIf (mOrT (mB (mOp gNe (mVar 2) (mPure (mLr2 (mOp gIx (mVar 2) (mC (.int 0))) (mOp gAdd (mOp gIx (mVar 2) (mNeg (mC (.int 1)))) (mC (.int 1))))))) (mNotT (mB (mFn 2 (f__law_same 8) [] (mCons (mTup (mCons (mFn 2 f_first_own [] (mCons (mVar 6) (mCons (mVar 1) mNil))) (mCons (mFn 4 f_last_own [] (mCons (mVar 5) (mCons (mVar 6) (mCons (mVar 7) (mCons (mVar 1) mNil))))) mNil))) (mCons (mTup (mCons (mOp gIx (mVar 2) (mC (.int 0))) (mCons (mOp gIx (mVar 2) (mNeg (mC (.int 1)))) mNil))) mNil)))))) (sRt (mC (.bl false))) sNx)
  (sSeq (sAs (tName 4) (mCall gMax (mCons (mPure (mComp (mRng rng1 (mCons (mVar 6) mNil)) (tName 9) mYes (mCall gLen (mCons (mPure (mComp (mRng rng1 (mCons (mOp gAdd (mOp gAdd (mOp gAdd (mOp gAdd (mVar 9) (mVar 5)) (mVar 6)) (mVar 7)) (mC (.int 4))) mNil)) (tName 3) (mB (mFn 5 f__law_has [] (mCons (mVar 5) (mCons (mVar 6) (mCons (mVar 7) (mCons (mVar 3) (mCons (mVar 9) mNil))))))) (mVar 3) [3])) mNil)) [9])) mNil)))
  (sRt (mAnd (mFn 2 (f__law_same 8) [] (mCons (mFn 3 f_kept [] (mCons (mVar 5) (mCons (mVar 6) (mCons (mVar 7) mNil)))) (mCons (mVar 4) mNil))) (mOp gLe (mCall gLen (mCons (mVar 2) mNil)) (mVar 4))))))))))
def f__law_counts : List D → Sto → Res D := runF 11 m__law_counts
def m__law_part : MS :=
  (sSeq (sAs (tName 3) (mBox (mCallF gList (mCons (mVar 1) mNil))))
  (sRt (mCall gTuple (mCons (mPure (mCallF gSorted (mCons (mPure (mComp (mRng rng1 (mCons (mVar 2) mNil)) (tName 4) mYes (mMtT "list" gPop (mVar 3) (mCons (mFn 2 f__law_take [] (mCons (mVar 0) (mCons (mCall gLen (mCons (mVar 3) mNil)) mNil))) mNil)) [4])) mNil))) mNil))))
def f__law_part : List D → Sto → Res D := runF 5 m__law_part
def m_counted_long : MS :=
  (sSeq (sAs (tName 5) (mBox (mLst mNil)))
  (sSeq (sFor (mEnum (mVar 0)) (tTup 2 (tCons (tName 6) (tCons (tName 7) tNil))) (sEx (mMtT "list" gAppend (mVar 5) (mCons (mCall gTuple (mCons (mPure (mComp (mSeq (mVar 7)) (tName 8) (mB (mCall gAny (mCons (mPure (mComp (mSeq (mVar 4)) (tTup 2 (tCons (tName 9) (tCons (tName 10) tNil))) mYes (mAnd (mOp gEq (mVar 9) (mVar 8)) (mFn 5 f_counts_at [] (mCons (mVar 1) (mCons (mVar 2) (mCons (mVar 3) (mCons (mVar 10) (mCons (mVar 6) mNil))))))) [9, 10])) mNil))) (mVar 8) [8])) mNil)) mNil))))
  (sRt (mCall gTuple (mCons (mVar 5) mNil)))))
def f_counted_long : List D → Sto → Res D := runF 11 m_counted_long
def m_is_spread : MS :=
  (sSeq (sAs (tName 2) mDict0)
  (sSeq (sFor (mSeq (mVar 0)) (tTup 2 (tCons (tName 3) (tCons (tName 4) tNil))) (sSeq (sEx (mSetd (mVar 2) (mVar 4) (mBox (mLst mNil))))
  (sSeq (sIf (mB (mOp gIn (mVar 3) (mOp gDix (mVar 2) (mVar 4)))) (sRt (mC (.bl false))) sNx)
  (sEx (mMtT "list" gAppend (mOp gDix (mVar 2) (mVar 4)) (mCons (mVar 3) mNil))))))
  (sRt (mLock 2 (mCall gAll (mCons (mPure (mComp (mVals (mVar 2)) (tName 5) mYes (mOp gLe (mCall gLen (mCons (mVar 5) mNil)) (mVar 1)) [5])) mNil))))))
def f_is_spread : List D → Sto → Res D := runF 6 m_is_spread
def m__law_lots : MS :=
  (sSeq (sAs (tTup 3 (tCons (tName 9) (tCons (tName 10) (tCons (tName 11) tNil)))) (mFn 1 f__law_numbers [] (mCons (mVar 0) mNil)))
  (sSeq (sAs (tName 1) (mBox (mLst mNil)))
  (sSeq (sFor (mRng rng1 (mCons (mOp gAdd (mC (.int 1)) (mFn 2 f__law_take [] (mCons (mVar 0) (mCons (mC (.int 12)) mNil)))) mNil)) (tName 2) (sEx (mMtT "list" gAppend (mVar 1) (mCons (mFn 3 f__law_part [] (mCons (mVar 0) (mCons (mPure (mLr1 (mC (.int 8)))) (mCons (mOp gAdd (mC (.int 1)) (mFn 2 f__law_take [] (mCons (mVar 0) (mCons (mC (.int 7)) mNil)))) mNil)))) mNil))))
  (sSeq (sAs (tName 3) (mBox (mLst mNil)))
  (sSeq (sFor (mRng rng1 (mCons (mFn 2 f__law_take [] (mCons (mVar 0) (mCons (mC (.int 12)) mNil))) mNil)) (tName 4) (sEx (mMtT "list" gAppend (mVar 3) (mCons (mTup (mCons (mFn 2 f__law_take [] (mCons (mVar 0) (mCons (mC (.int 9)) mNil))) (mCons (mFn 2 f__law_take [] (mCons (mVar 0) (mCons (mOp gAdd (mOp gAdd (mCall gLen (mCons (mVar 1) mNil)) (mVar 9)) (mC (.int 2))) mNil))) mNil))) mNil))))
  (sSeq (sAs (tName 5) (mBox (mLst mNil)))
  (sSeq (sFor (mRng rng1 (mCons (mCall gLen (mCons (mVar 1) mNil)) mNil)) (tName 2) (sEx (mLock 3 (mMtT "list" gAppend (mVar 5) (mCons (mCall gTuple (mCons (mPure (mComp (mSeq (mOp gIx (mVar 1) (mVar 2))) (tName 12) (mB (mCall gAny (mCons (mPure (mComp (mSeq (mVar 3)) (tTup 2 (tCons (tName 13) (tCons (tName 14) tNil))) mYes (mAnd (mOp gEq (mVar 13) (mVar 12)) (mFn 5 f__law_has [] (mCons (mVar 9) (mCons (mVar 10) (mCons (mVar 11) (mCons (mVar 14) (mCons (mVar 2) mNil))))))) [13, 14])) mNil))) (mVar 12) [12])) mNil)) mNil)))))
  (sSeq (sIf (mNotT (mB (mFn 2 (f__law_same 8) [] (mCons (mFn 5 f_counted_long [] (mCons (mCall gTuple (mCons (mVar 1) mNil)) (mCons (mVar 9) (mCons (mVar 10) (mCons (mVar 11) (mCons (mCall gTuple (mCons (mVar 3) mNil)) mNil)))))) (mCons (mCall gTuple (mCons (mVar 5) mNil)) mNil))))) (sRt (mC (.bl false))) sNx)
  (sSeq (sAs (tName 6) (mFn 2 f__law_take [] (mCons (mVar 0) (mCons (mC (.int 4)) mNil))))
  (sSeq (sAs (tName 7) (mLock 3 (mCall gMax (mCons (mOp gAdd (mPure (mLst (mCons (mC (.int 0)) mNil))) (mPure (mComp (mSeq (mVar 3)) (tTup 2 (tCons (tName 13) (tCons (tName 14) tNil))) mYes (mCall gLen (mCons (mPure (mComp (mSeq (mVar 3)) (tTup 2 (tCons (tName 12) (tCons (tName 15) tNil))) (mB (mOp gEq (mVar 15) (mVar 14))) (mC (.int 1)) [12, 15])) mNil)) [13, 14]))) mNil))))
  (sSeq (sAs (tName 8) (mAnd (mOp gEq (mLenSet (mVar 3)) (mCall gLen (mCons (mVar 3) mNil))) (mOp gLe (mVar 7) (mVar 6))))
  (sRt (mAnd (mFn 2 (f__law_same 8) [] (mCons (mFn 2 f_is_spread [] (mCons (mCall gTuple (mCons (mVar 3) mNil)) (mCons (mVar 6) mNil))) (mCons (mVar 8) mNil))) (mFn 2 (f__law_same 8) [] (mCons (mFn 2 f_is_spread [] (mCons (mTup mNil) (mCons (mVar 6) mNil))) (mCons (mC (.bl true)) mNil))))))))))))))))
def f__law_lots : List D → Sto → Res D := runF 16 m__law_lots
def m_worst_looks : MS :=
  (sSeq (sAs (tTup 2 (tCons (tName 6) (tCons (tName 7) tNil))) (mTup (mCons (mFn 2 f_first_own [] (mCons (mVar 3) (mCons (mVar 5) mNil))) (mCons (mFn 4 f_last_own [] (mCons (mVar 2) (mCons (mVar 3) (mCons (mVar 4) (mCons (mVar 5) mNil))))) mNil))))
  (sSeq (sIf (mB (mOp gGe (mVar 7) (mC (.int 200)))) (sRaise "Refused" (mC (.str "far"))) sNx)
  (sRt (mIf (mB (mOp gGt (mVar 1) (mC (.int 0)))) (mCall gTuple (mCons (mPure (mComp (mRng rng1 (mCons (mCall gMin (mCons (mVar 0) (mCons (mOp gMul (mVar 1) (mOp gAdd (mOp gSub (mVar 7) (mVar 6)) (mC (.int 1)))) mNil))) mNil)) (tName 8) mYes (mTup (mCons (mVar 8) (mCons (mOp gAdd (mVar 6) (mOp gDiv (mVar 8) (mVar 1))) mNil))) [8])) mNil)) (mTup mNil)))))
def f_worst_looks : List D → Sto → Res D := runF 9 m_worst_looks
def m_kept_copies : MS :=
  (sRt (mOp gAdd (mOp gAdd (mOp gMul (mIf (mB (mVar 5)) (mC (.int 4)) (mC (.int 3))) (mVar 0)) (mOp gMul (mVar 1) (mFn 3 f_kept [] (mCons (mVar 2) (mCons (mVar 3) (mCons (mVar 4) mNil)))))) (mC (.int 1))))
def f_kept_copies : List D → Sto → Res D := runF 6 m_kept_copies
def m_most_counted : MS :=
  (sRt (mCall gMin (mCons (mVar 0) (mCons (mOp gAdd (mVar 1) (mOp gMul (mVar 2) (mFn 3 f_kept [] (mCons (mVar 3) (mCons (mVar 4) (mCons (mVar 5) mNil)))))) mNil))))
def f_most_counted : List D → Sto → Res D := runF 6 m_most_counted
def m__law_worst : MS :=
  (sSeq (sAs (tTup 3 (tCons (tName 7) (tCons (tName 8) (tCons (tName 9) tNil)))) (mFn 1 f__law_numbers [] (mCons (mVar 0) mNil)))
  (sSeq (sAs (tTup 3 (tCons (tName 10) (tCons (tName 11) (tCons (tName 12) tNil)))) (mTup (mCons (mOp gAdd (mC (.int 1)) (mFn 2 f__law_take [] (mCons (mVar 0) (mCons (mC (.int 24)) mNil)))) (mCons (mFn 2 f__law_take [] (mCons (mVar 0) (mCons (mC (.int 4)) mNil))) (mCons (mFn 2 f__law_take [] (mCons (mVar 0) (mCons (mC (.int 4)) mNil))) mNil)))))
  (sSeq (sAs (tName 1) (mFn 2 f__law_pick [] (mCons (mVar 0) (mCons (mPure (mLst (mCons (mC (.int 0)) (mCons (mOp gMul (mVar 8) (mFn 2 f__law_take [] (mCons (mVar 0) (mCons (mC (.int 5)) mNil)))) (mCons (mFn 2 f__law_take [] (mCons (mVar 0) (mCons (mC (.int 60)) mNil))) mNil))))) mNil))))
  (sSeq (sAs (tName 2) (mPure (mComp (mRng rng1 (mCons (mOp gAdd (mOp gAdd (mOp gAdd (mOp gAdd (mVar 1) (mVar 7)) (mVar 8)) (mVar 9)) (mC (.int 4))) mNil)) (tName 14) (mB (mFn 5 f__law_has [] (mCons (mVar 7) (mCons (mVar 8) (mCons (mVar 9) (mCons (mVar 14) (mCons (mVar 1) mNil))))))) (mVar 14) [14])))
  (sSeq (sAs (tName 3) (mFn 6 f_worst_looks [] (mCons (mVar 10) (mCons (mVar 12) (mCons (mVar 7) (mCons (mVar 8) (mCons (mVar 9) (mCons (mVar 1) mNil))))))))
  (sSeq (sIf (mOrT (mNotT (mB (mIsi "tuple" (mVar 3)))) (mNotT (mB (mCall gAll (mCons (mPure (mComp (mSeq (mVar 3)) (tName 17) mYes (mAnd (mIsi "tuple" (mVar 17)) (mOp gEq (mCall gLen (mCons (mVar 17) mNil)) (mC (.int 2)))) [17])) mNil))))) (sRt (mC (.bl false))) sNx)
  (sSeq (sIf (mNotT (mB (mCall gAll (mCons (mPure (mComp (mSeq (mVar 3)) (tTup 2 (tCons (tName 15) (tCons (tName 14) tNil))) mYes (mAnd (mFn 2 (f__law_same 8) [] (mCons (mVar 15) (mCons (mCall gInt (mCons (mVar 15) mNil)) mNil))) (mAnd (mFn 2 (f__law_same 8) [] (mCons (mVar 14) (mCons (mCall gInt (mCons (mVar 14) mNil)) mNil))) (mChain gLe gLt (mC (.int 0)) (mVar 15) (mVar 10)))) [15, 14])) mNil)))) (sRt (mC (.bl false))) sNx)
  (sSeq (sIf (mOrT (mB (mOp gNe (mLenSet (mVar 3)) (mCall gLen (mCons (mVar 3) mNil)))) (mB (mCall gAny (mCons (mPure (mComp (mSeq (mVar 3)) (tTup 2 (tCons (tName 18) (tCons (tName 14) tNil))) mYes (mOp gGt (mCall gLen (mCons (mPure (mComp (mSeq (mVar 3)) (tTup 2 (tCons (tName 15) (tCons (tName 19) tNil))) (mB (mOp gEq (mVar 19) (mVar 14))) (mC (.int 1)) [15, 19])) mNil)) (mVar 12)) [18, 14])) mNil)))) (sRt (mC (.bl false))) sNx)
  (sSeq (sAs (tName 4) (mPure (mComp (mRng rng1 (mCons (mVar 10) mNil)) (tName 15) (mB (mCall gAny (mCons (mPure (mComp (mSeq (mVar 3)) (tTup 2 (tCons (tName 18) (tCons (tName 14) tNil))) mYes (mAnd (mOp gEq (mVar 18) (mVar 15)) (mFn 5 f__law_has [] (mCons (mVar 7) (mCons (mVar 8) (mCons (mVar 9) (mCons (mVar 14) (mCons (mVar 1) mNil))))))) [18, 14])) mNil))) (mVar 15) [15])))
  (sSeq (sIf (mOrT (mB (mOp gNe (mCall gLen (mCons (mVar 4) mNil)) (mCall gMin (mCons (mVar 10) (mCons (mOp gMul (mVar 12) (mCall gLen (mCons (mVar 2) mNil))) mNil))))) (mB (mOp gIsNot (mFn 2 f_is_spread [] (mCons (mVar 3) (mCons (mVar 12) mNil))) (mC (.bl true))))) (sRt (mC (.bl false))) sNx)
  (sSeq (sAs (tName 5) (mCall gMax (mCons (mPure (mComp (mRng rng1 (mCons (mVar 8) mNil)) (tName 16) mYes (mCall gLen (mCons (mPure (mComp (mRng rng1 (mCons (mOp gAdd (mOp gAdd (mOp gAdd (mOp gAdd (mVar 16) (mVar 7)) (mVar 8)) (mVar 9)) (mC (.int 4))) mNil)) (tName 14) (mB (mFn 5 f__law_has [] (mCons (mVar 7) (mCons (mVar 8) (mCons (mVar 9) (mCons (mVar 14) (mCons (mVar 16) mNil))))))) (mVar 14) [14])) mNil)) [16])) mNil)))
  (sSeq (sIf (mNotT (mB (mFn 2 (f__law_same 8) [] (mCons (mFn 6 f_most_counted [] (mCons (mVar 10) (mCons (mVar 11) (mCons (mVar 12) (mCons (mVar 7) (mCons (mVar 8) (mCons (mVar 9) mNil))))))) (mCons (mCall gMin (mCons (mVar 10) (mCons (mOp gAdd (mVar 11) (mOp gMul (mVar 12) (mVar 5))) mNil))) mNil))))) (sRt (mC (.bl false))) sNx)
  (sSeq (sFor (mSeq (mTup (mCons (mC (.bl false)) (mCons (mC (.bl true)) mNil)))) (tName 6) (sSeq (sAs (tName 13) (mOp gAdd (mOp gAdd (mOp gMul (mOp gAdd (mC (.int 3)) (mCall gInt (mCons (mVar 6) mNil))) (mVar 11)) (mOp gMul (mVar 12) (mVar 5))) (mC (.int 1))))
  (sIf (mNotT (mB (mFn 2 (f__law_same 8) [] (mCons (mFn 6 f_kept_copies [] (mCons (mVar 11) (mCons (mVar 12) (mCons (mVar 7) (mCons (mVar 8) (mCons (mVar 9) (mCons (mVar 6) mNil))))))) (mCons (mVar 13) mNil))))) (sRt (mC (.bl false))) sNx)))
  (sRt (mFn 2 (f__law_same 8) [] (mCons (mFn 6 f_kept_copies [(.bl false)] (mCons (mVar 11) (mCons (mVar 12) (mCons (mVar 7) (mCons (mVar 8) (mCons (mVar 9) mNil)))))) (mCons (mOp gAdd (mOp gAdd (mOp gMul (mC (.int 3)) (mVar 11)) (mOp gMul (mVar 12) (mVar 5))) (mC (.int 1))) mNil)))))))))))))))))
def f__law_worst : List D → Sto → Res D := runF 20 m__law_worst
def m__law_far : MS :=
  (sSeq (sPar [3, 4] (mCons (mFn 2 f__law_pick [] (mCons (mVar 0) (mCons (mPure (mLst (mCons (mC (.int 1)) (mCons (mC (.int 100)) (mCons (mC (.int 199)) mNil))))) mNil))) (mCons (mC (.int 1)) mNil)))
  (sSeq (sAs (tName 1) (mOp gSub (mOp gSub (mOp gSub (mC (.int 200)) (mVar 3)) (mC (.int 1))) (mFn 2 f__law_take [] (mCons (mVar 0) (mCons (mOp gSub (mC (.int 200)) (mVar 3)) mNil)))))
  (sSeq (sIf (mNotT (mB (mFn 2 (f__law_same 8) [] (mCons (mCall gLen (mCons (mFn 6 f_worst_looks [] (mCons (mC (.int 3)) (mCons (mC (.int 3)) (mCons (mVar 3) (mCons (mVar 4) (mCons (mC (.int 0)) (mCons (mVar 1) mNil))))))) mNil)) (mCons (mC (.int 3)) mNil))))) (sRt (mC (.bl false))) sNx)
  (sSeq (sTryAs (catOf "Refused") 2 (sEx (mFn 6 f_worst_looks [] (mCons (mC (.int 3)) (mCons (mC (.int 3)) (mCons (mVar 3) (mCons (mVar 4) (mCons (mC (.int 0)) (mCons (mOp gSub (mC (.int 200)) (mVar 3)) mNil)))))))) (xRt (xSame (xCons (mAt ["Refused"]) (xCons (fun _ _ => (mC (.str "far"))) xNil))) 2))
  (sRt (mC (.bl false)))))))
def f__law_far : List D → Sto → Res D := runF 5 m__law_far
def m_law : MS :=
  (sSeq (sFor (mRng rng1 (mCons (mC (.int 2)) mNil)) (tName 1) (sSeq (sAs (tName 2) (mFn 2 f__law_box [] (mCons (mVar 0) (mCons (mVar 1) mNil))))
  (sIf (mOrT (mNotT (mB (mFn 1 f__law_counts [] (mCons (mVar 2) mNil)))) (mOrT (mNotT (mB (mFn 1 f__law_lots [] (mCons (mVar 2) mNil)))) (mOrT (mNotT (mB (mFn 1 f__law_worst [] (mCons (mVar 2) mNil)))) (mNotT (mB (mFn 1 f__law_far [] (mCons (mVar 2) mNil))))))) (sRt (mC (.bl false))) sNx)))
  (sRt (mC (.bl true))))
def f_law : List D → Sto → Res D := runF 3 m_law
structure Facts (G : Gb) : Prop where
  d__law_box : DefAt G.K "_law_box" s__law_box
  d__law_take : DefAt G.K "_law_take" s__law_take
  d__law_pick : DefAt G.K "_law_pick" s__law_pick
  d__law_numbers : DefAt G.K "_law_numbers" s__law_numbers
  d__law_same : DefAt G.K "_law_same" s__law_same
  d__law_has : DefAt G.K "_law_has" s__law_has
  d_kept : DefAt G.K "kept" s_kept
  d_pens_from : DefAt G.K "pens_from" s_pens_from
  d_counts_at : DefAt G.K "counts_at" s_counts_at
  d_first_own : DefAt G.K "first_own" s_first_own
  d_last_own : DefAt G.K "last_own" s_last_own
  d__law_counts : DefAt G.K "_law_counts" s__law_counts
  d__law_part : DefAt G.K "_law_part" s__law_part
  d_counted_long : DefAt G.K "counted_long" s_counted_long
  d_is_spread : DefAt G.K "is_spread" s_is_spread
  d__law_lots : DefAt G.K "_law_lots" s__law_lots
  d_worst_looks : DefAt G.K "worst_looks" s_worst_looks
  d_kept_copies : DefDAt G.K "kept_copies" s_kept_copies [(V.bl false)]
  d_most_counted : DefAt G.K "most_counted" s_most_counted
  d__law_worst : DefAt G.K "_law_worst" s__law_worst
  d__law_far : DefAt G.K "_law_far" s__law_far
  d_law : DefAt G.K "law" s_law
  g_abs : G.mg "abs" = none
  g_all : G.mg "all" = none
  g_any : G.mg "any" = none
  g_bool : G.mg "bool" = none
  g_enumerate : G.mg "enumerate" = none
  g_int : G.mg "int" = none
  g_isinstance : G.mg "isinstance" = none
  g_len : G.mg "len" = none
  g_list : G.mg "list" = none
  g_max : G.mg "max" = none
  g_min : G.mg "min" = none
  g_range : G.mg "range" = none
  g_set : G.mg "set" = none
  g_sorted : G.mg "sorted" = none
  g_str : G.mg "str" = none
  g_tuple : G.mg "tuple" = none
  c_MOST_MAPS : ConAt G "MOST_MAPS" (.int 200)
  x_Refused : Ex G "Refused"
  t_Refused : Cat G "Refused" (catOf "Refused")
section
variable {G : Gb} {h : Heap}
theorem one_ex {c0 : Str} (x : Ex G c0) : ∀ c ∈ [c0], Ex G c := fun c hc => by rw [List.mem_singleton.mp hc]; exact x
theorem ok__law_box (X : G.K.In h) (ns : h.Ns mainGlobals G.mg) (F : Facts G) : Fn G 1 "_law_box" 2 f__law_box [] := Fn.of X ns F.d__law_box sc__law_box (fun _ _ _ _ _ _ us hl => match us, hl with | [_, _], _ => rfl)
  (sims_cons (sim_set 2 (sim_op add_ok nc_add (sim_op mul_ok nc_mul sim_int (sim_var 1)) sim_int))
  (sims_cons (sim_ifS (sim_cmpT lt_ok nc_lt (sim_var 1) (sim_callB len_ok nc_len F.g_len (sim_cons (sim_var 0) sim_nil))) (sims_one (sim_set 2 (sim_op mod_ok nc_mod (sim_callTy int_ok nc_int F.g_int (sim_cons (sim_callB abs_ok nc_abs F.g_abs (sim_cons (sim_ix (sim_var 0) (sim_var 1)) sim_nil)) sim_nil)) (sim_op mul_ok nc_mul (sim_op mul_ok nc_mul (sim_op pow_ok nc_pow sim_int sim_int) (sim_op pow_ok nc_pow sim_int sim_int)) (sim_op pow_ok nc_pow sim_int sim_int))))) (sims_one (sim_ifS (sim_cmpT gt_ok nc_gt (sim_callB len_ok nc_len F.g_len (sim_cons (sim_var 0) sim_nil)) sim_int) (sims_one (sim_set 2 (sim_op add_ok nc_add (sim_var 2) (sim_op mul_ok nc_mul (sim_op mod_ok nc_mod (sim_callTy int_ok nc_int F.g_int (sim_cons (sim_callB abs_ok nc_abs F.g_abs (sim_cons (sim_ix (sim_var 0) (sim_op mod_ok nc_mod (sim_callTy int_ok nc_int F.g_int (sim_cons (sim_var 1) sim_nil)) (sim_callB len_ok nc_len F.g_len (sim_cons (sim_var 0) sim_nil)))) sim_nil)) sim_nil)) sim_int) sim_int)))) sims_nil)))
  (sims_one (sim_ret (sim_box (sim_lst (sim_cons (sim_ix (sim_pure (sim_lst (sim_cons sim_int (sim_cons (sim_var 2) sim_nil)))) (sim_callTy int_ok nc_int F.g_int (sim_cons (sim_cmp ge_ok nc_ge (sim_var 2) (sim_op pow_ok nc_pow sim_int sim_int)) sim_nil))) (sim_cons (sim_op add_ok nc_add (sim_op mod_ok nc_mod (sim_callTy int_ok nc_int F.g_int (sim_cons (sim_op add_ok nc_add (sim_op mul_ok nc_mul (sim_op mod_ok nc_mod (sim_callTy int_ok nc_int F.g_int (sim_cons (sim_var 2) sim_nil)) sim_int) sim_int) (sim_op mul_ok nc_mul sim_int (sim_var 1))) sim_nil)) sim_int) sim_int) (sim_cons sim_int sim_nil)))))))))
theorem ok__law_take (X : G.K.In h) (ns : h.Ns mainGlobals G.mg) (F : Facts G) : Fn G 1 "_law_take" 2 f__law_take [] := Fn.of X ns F.d__law_take sc__law_take (fun _ _ _ _ _ _ us hl => match us, hl with | [_, _], _ => rfl)
  (sims_cons (sim_ifS (sim_cmpT gt_ok nc_gt (sim_ix (sim_var 0) sim_int) sim_int) (sims_cons (sim_set 3 (sim_op mod_ok nc_mod (sim_callTy int_ok nc_int F.g_int (sim_cons (sim_ix (sim_var 0) sim_int) sim_nil)) (sim_var 1)))
  (sims_cons (sim_asg (sim_op div_ok nc_div (sim_ix (sim_var 0) sim_int) (sim_var 1)) (simg_put (sim_var 0) sim_int))
  (sims_one (sim_ret (sim_var 3))))) sims_nil)
  (sims_cons (sim_asg (sim_op add_ok nc_add (sim_ix (sim_var 0) sim_int) sim_int) (simg_put (sim_var 0) sim_int))
  (sims_cons (sim_set 2 (sim_op mod_ok nc_mod (sim_callTy int_ok nc_int F.g_int (sim_cons (sim_op add_ok nc_add (sim_op mul_ok nc_mul (sim_op add_ok nc_add (sim_ix (sim_var 0) sim_int) (sim_op mul_ok nc_mul sim_int (sim_ix (sim_var 0) sim_int))) sim_int) sim_int) sim_nil)) sim_int))
  (sims_cons (sim_asg (sim_op add_ok nc_add (sim_op mod_ok nc_mod (sim_callTy int_ok nc_int F.g_int (sim_cons (sim_op add_ok nc_add (sim_op mul_ok nc_mul (sim_var 2) sim_int) sim_int) sim_nil)) sim_int) sim_int) (simg_put (sim_var 0) sim_int))
  (sims_one (sim_ret (sim_op mod_ok nc_mod (sim_callTy int_ok nc_int F.g_int (sim_cons (sim_op div_ok nc_div (sim_op add_ok nc_add (sim_op mul_ok nc_mul (sim_var 2) sim_int) (sim_ix (sim_var 0) sim_int)) sim_int) sim_nil)) (sim_var 1))))))))
theorem ok__law_pick (X : G.K.In h) (ns : h.Ns mainGlobals G.mg) (F : Facts G) : Fn G 2 "_law_pick" 2 f__law_pick [] := Fn.of X ns F.d__law_pick sc__law_pick (fun _ _ _ _ _ _ us hl => match us, hl with | [_, _], _ => rfl)
  (sims_one (sim_ret (sim_ix (sim_var 1) (sim_fn ((ok__law_take X ns F).mono (by decide)) (sim_cons (sim_var 0) (sim_cons (sim_callB len_ok nc_len F.g_len (sim_cons (sim_var 1) sim_nil)) sim_nil))))))
theorem ok__law_numbers (X : G.K.In h) (ns : h.Ns mainGlobals G.mg) (F : Facts G) : Fn G 3 "_law_numbers" 1 f__law_numbers [] := Fn.of X ns F.d__law_numbers sc__law_numbers (fun _ _ _ _ _ _ us hl => match us, hl with | [_], _ => rfl)
  (sims_one (sim_ret (sim_tup (sim_cons (sim_fn ((ok__law_take X ns F).mono (by decide)) (sim_cons (sim_var 0) (sim_cons sim_int sim_nil))) (sim_cons (sim_op add_ok nc_add sim_int (sim_fn ((ok__law_take X ns F).mono (by decide)) (sim_cons (sim_var 0) (sim_cons sim_int sim_nil)))) (sim_cons (sim_fn ((ok__law_pick X ns F).mono (by decide)) (sim_cons (sim_var 0) (sim_cons (sim_pure (sim_lst (sim_cons sim_int (sim_cons sim_int (sim_cons sim_int (sim_cons (sim_fn ((ok__law_take X ns F).mono (by decide)) (sim_cons (sim_var 0) (sim_cons sim_int sim_nil))) sim_nil)))))) sim_nil))) sim_nil))))))
theorem same_hot (X : G.K.In h) (ns : h.Ns mainGlobals G.mg) (F : Facts G) : SameH G 1 "_law_same" := SameH.of X ns F.d__law_same sc__law_same (fun _ _ _ _ _ _ us hl => match us, hl with | [_, _], _ => rfl) F.g_isinstance F.g_str rfl
theorem ok__law_same (X : G.K.In h) (ns : h.Ns mainGlobals G.mg) (F : Facts G) : ∀ n, Fn G (0 + n) "_law_same" 2 (f__law_same n) []
  | 0 => Fn.no X ns F.d__law_same sc__law_same (fun _ _ _ _ _ _ us hl => match us, hl with | [_, _], _ => rfl)
  | n + 1 => have R := ok__law_same X ns F n
    Fn.of X ns F.d__law_same sc__law_same (fun _ _ _ _ _ _ us hl => match us, hl with | [_, _], _ => rfl)
      (sims_cons (sim_ifS (sim_w (sim_orW (sim_cmpT is_ok nc_is (sim_var 1) sim_non) (sim_orW (sim_cmpT is_ok nc_is (sim_var 1) sim_bl) (sim_or1 (sim_cmpT is_ok nc_is (sim_var 1) sim_bl))))) (sims_one (sim_ret (sim_ix (sim_pure (sim_lst (sim_cons (sim_cmp is_ok nc_is (sim_var 0) sim_non) (sim_cons (sim_cmp is_ok nc_is (sim_var 0) sim_bl) (sim_cons (sim_cmp is_ok nc_is (sim_var 0) sim_bl) sim_nil))))) (sim_mt index_ok nc_index PySem.F.plainAttrs_list PySem.F.slot_list_index PySem.F.type_list_index (sim_pure (sim_lst (sim_cons sim_non (sim_cons sim_bl (sim_cons sim_bl sim_nil))))) (sim_cons (sim_var 1) sim_nil))))) sims_nil)
        (sims_cons (sim_ifS (sim_valT (sim_isi (sim_var 1) F.g_isinstance F.g_str)) (sims_one (sim_ret (sim_and (sim_isi (sim_var 0) F.g_isinstance F.g_str) (sim_one (sim_cmp eq_ok nc_eq (sim_var 0) (sim_var 1)))))) sims_nil)
        (sims_cons (sim_ifS (sim_valT (sim_isi (sim_var 1) F.g_isinstance F.g_int)) (sims_one (sim_ret (sim_and (sim_isi (sim_var 0) F.g_isinstance F.g_int) (sim_and (sim_not (sim_isi (sim_var 0) F.g_isinstance F.g_bool)) (sim_one (sim_cmp eq_ok nc_eq (sim_var 0) (sim_var 1))))))) sims_nil)
        (sims_cons (sim_ifS (sim_w (sim_orW (sim_notT (sim_valT (sim_isi (sim_var 0) F.g_isinstance F.g_tuple))) (sim_or1 (sim_cmpT ne_ok nc_ne (sim_callB len_ok nc_len F.g_len (sim_cons (sim_var 0) sim_nil)) (sim_callB len_ok nc_len F.g_len (sim_cons (sim_var 1) sim_nil)))))) (sims_one (sim_ret sim_bl)) sims_nil)
        (sims_one (sim_ret (sim_callB all_ok nc_all F.g_all (sim_cons (sim_pure (sim_lc [("at", 2)] (simi_rng1 (sim_cons (sim_callB len_ok nc_len F.g_len (sim_cons (sim_var 1) sim_nil)) sim_nil) F.g_range) (simg_name 2) simts_nil (sim_fn R (sim_cons (sim_ix (sim_var 0) (sim_var 2)) (sim_cons (sim_ix (sim_var 1) (sim_var 2)) sim_nil))))) sim_nil))))))))
theorem ok__law_has (X : G.K.In h) (ns : h.Ns mainGlobals G.mg) (F : Facts G) : Fn G 1 "_law_has" 5 f__law_has [] := Fn.of X ns F.d__law_has sc__law_has (fun _ _ _ _ _ _ us hl => match us, hl with | [_, _, _, _, _], _ => rfl)
  (sims_cons (sim_setlc 5 [("j", 8)] (simi_rng2 (sim_cons (sim_callB max_ok nc_max F.g_max (sim_cons sim_int (sim_cons (sim_op sub_ok nc_sub (sim_var 3) (sim_var 0)) sim_nil))) (sim_cons (sim_op add_ok nc_add (sim_var 3) sim_int) sim_nil)) F.g_range) (simg_name 8) simts_nil (sim_var 8))
  (sims_cons (sim_setlc 6 [("j", 8)] (simi_rng2 (sim_cons (sim_callB max_ok nc_max F.g_max (sim_cons sim_int (sim_cons (sim_op sub_ok nc_sub (sim_op sub_ok nc_sub (sim_var 3) (sim_var 0)) (sim_var 2)) sim_nil))) (sim_cons (sim_op add_ok nc_add (sim_var 3) sim_int) sim_nil)) F.g_range) (simg_name 8) simts_nil (sim_var 8))
  (sims_cons (sim_setlc 7 [("j", 8)] (simi_seq (sim_var 5)) (simg_name 8) simts_nil (sim_op div_ok nc_div (sim_var 8) (sim_var 1)))
  (sims_one (sim_ret (sim_or (sim_cmp in_ok nc_in (sim_var 4) (sim_var 5)) (sim_or (sim_cmp in_ok nc_in (sim_var 4) (sim_var 6)) (sim_one (sim_cmp in_ok nc_in (sim_op div_ok nc_div (sim_var 4) (sim_var 1)) (sim_var 7))))))))))
theorem ok_kept (X : G.K.In h) (ns : h.Ns mainGlobals G.mg) (F : Facts G) : Fn G 1 "kept" 3 f_kept [] := Fn.of X ns F.d_kept sc_kept (fun _ _ _ _ _ _ us hl => match us, hl with | [_, _, _], _ => rfl)
  (sims_one (sim_ret (sim_op add_ok nc_add (sim_op add_ok nc_add (sim_var 0) (sim_var 1)) (sim_var 2))))
theorem ok_pens_from (X : G.K.In h) (ns : h.Ns mainGlobals G.mg) (F : Facts G) : Fn G 1 "pens_from" 3 f_pens_from [] := Fn.of X ns F.d_pens_from sc_pens_from (fun _ _ _ _ _ _ us hl => match us, hl with | [_, _, _], _ => rfl)
  (sims_one (sim_ret (sim_op mul_ok nc_mul (sim_var 1) (sim_op div_ok nc_div (sim_callB max_ok nc_max F.g_max (sim_cons sim_int (sim_cons (sim_op sub_ok nc_sub (sim_var 2) (sim_var 0)) sim_nil))) (sim_var 1)))))
theorem ok_counts_at (X : G.K.In h) (ns : h.Ns mainGlobals G.mg) (F : Facts G) : Fn G 2 "counts_at" 5 f_counts_at [] := Fn.of X ns F.d_counts_at sc_counts_at (fun _ _ _ _ _ _ us hl => match us, hl with | [_, _, _, _, _], _ => rfl)
  (sims_one (sim_ret (sim_or (sim_chain le_ok nc_le le_ok nc_le (sim_var 4) (sim_var 3) (sim_op add_ok nc_add (sim_op add_ok nc_add (sim_var 4) (sim_var 0)) (sim_var 2))) (sim_one (sim_chain le_ok nc_le lt_ok nc_lt (sim_fn ((ok_pens_from X ns F).mono (by decide)) (sim_cons (sim_var 0) (sim_cons (sim_var 1) (sim_cons (sim_var 3) sim_nil)))) (sim_var 4) (sim_op add_ok nc_add (sim_op mul_ok nc_mul (sim_var 1) (sim_op div_ok nc_div (sim_var 3) (sim_var 1))) (sim_var 1)))))))
theorem ok_first_own (X : G.K.In h) (ns : h.Ns mainGlobals G.mg) (F : Facts G) : Fn G 1 "first_own" 2 f_first_own [] := Fn.of X ns F.d_first_own sc_first_own (fun _ _ _ _ _ _ us hl => match us, hl with | [_, _], _ => rfl)
  (sims_one (sim_ret (sim_op mul_ok nc_mul (sim_var 0) (sim_op div_ok nc_div (sim_var 1) (sim_var 0)))))
theorem ok_last_own (X : G.K.In h) (ns : h.Ns mainGlobals G.mg) (F : Facts G) : Fn G 1 "last_own" 4 f_last_own [] := Fn.of X ns F.d_last_own sc_last_own (fun _ _ _ _ _ _ us hl => match us, hl with | [_, _, _, _], _ => rfl)
  (sims_one (sim_ret (sim_callB max_ok nc_max F.g_max (sim_cons (sim_op add_ok nc_add (sim_op add_ok nc_add (sim_var 3) (sim_var 0)) (sim_var 2)) (sim_cons (sim_op add_ok nc_add (sim_op sub_ok nc_sub (sim_op add_ok nc_add (sim_op mul_ok nc_mul (sim_var 1) (sim_op div_ok nc_div (sim_var 3) (sim_var 1))) (sim_var 1)) sim_int) (sim_var 0)) sim_nil)))))
theorem ok__law_counts (X : G.K.In h) (ns : h.Ns mainGlobals G.mg) (F : Facts G) : Fn G 10 "_law_counts" 1 f__law_counts [] := Fn.of X ns F.d__law_counts sc__law_counts (fun _ _ _ _ _ _ us hl => match us, hl with | [_], _ => rfl)
  (sims_cons (sim_asg (sim_fn ((ok__law_numbers X ns F).mono (by decide)) (sim_cons (sim_var 0) sim_nil)) (simg_tup (simgs_cons (simg_name 5) (simgs_cons (simg_name 6) (simgs_cons (simg_name 7) simgs_nil)))))
  (sims_cons (sim_set 1 (sim_fn ((ok__law_take X ns F).mono (by decide)) (sim_cons (sim_var 0) (sim_cons sim_int sim_nil))))
  (sims_cons (sim_setlc 2 [("own", 3)] (simi_rng1 (sim_cons (sim_op add_ok nc_add (sim_op add_ok nc_add (sim_op add_ok nc_add (sim_op add_ok nc_add (sim_var 1) (sim_var 5)) (sim_var 6)) (sim_var 7)) sim_int) sim_nil) F.g_range) (simg_name 3) (simts_one (sim_valT (sim_fn ((ok__law_has X ns F).mono (by decide)) (sim_cons (sim_var 5) (sim_cons (sim_var 6) (sim_cons (sim_var 7) (sim_cons (sim_var 3) (sim_cons (sim_var 1) sim_nil)))))))) (sim_var 3))
  (sims_cons (sim_for (simi_rng1 (sim_cons (sim_op add_ok nc_add (sim_op add_ok nc_add (sim_op add_ok nc_add (sim_op add_ok nc_add (sim_var 1) (sim_var 5)) (sim_var 6)) (sim_var 7)) sim_int) sim_nil) F.g_range) (simg_name 3) (sims_cons (sim_ifS (sim_notT (sim_valT (sim_fn (((ok__law_same X ns F 8)).mono (by decide)) (sim_cons (sim_fn ((ok_counts_at X ns F).mono (by decide)) (sim_cons (sim_var 5) (sim_cons (sim_var 6) (sim_cons (sim_var 7) (sim_cons (sim_var 3) (sim_cons (sim_var 1) sim_nil)))))) (sim_cons (sim_cmp in_ok nc_in (sim_var 3) (sim_var 2)) sim_nil))))) (sims_one (sim_ret sim_bl)) sims_nil)
  (sims_cons (sim_setlc 8 [("j", 9)] (simi_rng1 (sim_cons (sim_op add_ok nc_add (sim_var 3) sim_int) sim_nil) F.g_range) (simg_name 9) (simts_one (sim_cmpT in_ok nc_in (sim_op div_ok nc_div (sim_var 9) (sim_var 6)) (sim_pure (sim_lc [("k", 10)] (simi_rng2 (sim_cons (sim_callB max_ok nc_max F.g_max (sim_cons sim_int (sim_cons (sim_op sub_ok nc_sub (sim_var 3) (sim_var 5)) sim_nil))) (sim_cons (sim_op add_ok nc_add (sim_var 3) sim_int) sim_nil)) F.g_range) (simg_name 10) simts_nil (sim_op div_ok nc_div (sim_var 10) (sim_var 6)))))) (sim_var 9))
  (sims_one (sim_ifS (sim_notT (sim_valT (sim_fn (((ok__law_same X ns F 8)).mono (by decide)) (sim_cons (sim_fn ((ok_pens_from X ns F).mono (by decide)) (sim_cons (sim_var 5) (sim_cons (sim_var 6) (sim_cons (sim_var 3) sim_nil)))) (sim_cons (sim_ix (sim_var 8) sim_int) sim_nil))))) (sims_one (sim_ret sim_bl)) sims_nil)))))
  (sims_cons (sim_ifS (sim_w (sim_orW (sim_cmpT ne_ok nc_ne (sim_var 2) (sim_pure (sim_lrng2 (sim_ix (sim_var 2) sim_int) (sim_op add_ok nc_add (sim_ix (sim_var 2) (sim_neg sim_int)) sim_int) (hm := F.g_list) (hm2 := F.g_range)))) (sim_or1 (sim_notT (sim_valT (sim_fn (((ok__law_same X ns F 8)).mono (by decide)) (sim_cons (sim_tup (sim_cons (sim_fn ((ok_first_own X ns F).mono (by decide)) (sim_cons (sim_var 6) (sim_cons (sim_var 1) sim_nil))) (sim_cons (sim_fn ((ok_last_own X ns F).mono (by decide)) (sim_cons (sim_var 5) (sim_cons (sim_var 6) (sim_cons (sim_var 7) (sim_cons (sim_var 1) sim_nil))))) sim_nil))) (sim_cons (sim_tup (sim_cons (sim_ix (sim_var 2) sim_int) (sim_cons (sim_ix (sim_var 2) (sim_neg sim_int)) sim_nil))) sim_nil)))))))) (sims_one (sim_ret sim_bl)) sims_nil)
  (sims_cons (sim_set 4 (sim_callB max_ok nc_max F.g_max (sim_cons (sim_pure (sim_lc [("j", 9)] (simi_rng1 (sim_cons (sim_var 6) sim_nil) F.g_range) (simg_name 9) simts_nil (sim_callB len_ok nc_len F.g_len (sim_cons (sim_pure (sim_lc [("own", 3)] (simi_rng1 (sim_cons (sim_op add_ok nc_add (sim_op add_ok nc_add (sim_op add_ok nc_add (sim_op add_ok nc_add (sim_var 9) (sim_var 5)) (sim_var 6)) (sim_var 7)) sim_int) sim_nil) F.g_range) (simg_name 3) (simts_one (sim_valT (sim_fn ((ok__law_has X ns F).mono (by decide)) (sim_cons (sim_var 5) (sim_cons (sim_var 6) (sim_cons (sim_var 7) (sim_cons (sim_var 3) (sim_cons (sim_var 9) sim_nil)))))))) (sim_var 3))) sim_nil)))) sim_nil)))
  (sims_one (sim_ret (sim_and (sim_fn (((ok__law_same X ns F 8)).mono (by decide)) (sim_cons (sim_fn ((ok_kept X ns F).mono (by decide)) (sim_cons (sim_var 5) (sim_cons (sim_var 6) (sim_cons (sim_var 7) sim_nil)))) (sim_cons (sim_var 4) sim_nil))) (sim_one (sim_cmp le_ok nc_le (sim_callB len_ok nc_len F.g_len (sim_cons (sim_var 2) sim_nil)) (sim_var 4))))))))))))
theorem ok__law_part (X : G.K.In h) (ns : h.Ns mainGlobals G.mg) (F : Facts G) : Fn G 2 "_law_part" 3 f__law_part [] := Fn.of X ns F.d__law_part sc__law_part (fun _ _ _ _ _ _ us hl => match us, hl with | [_, _, _], _ => rfl)
  (sims_cons (sim_set 3 (sim_box (sim_callTyF list_ok nc_list F.g_list (sim_cons (sim_var 1) sim_nil))))
  (sims_one (sim_ret (sim_callTy tuple_ok nc_tuple F.g_tuple (sim_cons (sim_pure (sim_callBF sorted_ok nc_sorted F.g_sorted (sim_cons (sim_pure (sim_lc [("x", 4)] (simi_rng1 (sim_cons (sim_var 2) sim_nil) F.g_range) (simg_name 4) simts_nil (sim_mt pop_ok nc_pop PySem.F.plainAttrs_list PySem.F.slot_list_pop PySem.F.type_list_pop (sim_var 3) (sim_cons (sim_fn ((ok__law_take X ns F).mono (by decide)) (sim_cons (sim_var 0) (sim_cons (sim_callB len_ok nc_len F.g_len (sim_cons (sim_var 3) sim_nil)) sim_nil))) sim_nil)))) sim_nil))) sim_nil)))))
theorem ok_counted_long (X : G.K.In h) (ns : h.Ns mainGlobals G.mg) (F : Facts G) : Fn G 3 "counted_long" 5 f_counted_long [] := Fn.of X ns F.d_counted_long sc_counted_long (fun _ _ _ _ _ _ us hl => match us, hl with | [_, _, _, _, _], _ => rfl)
  (sims_cons (sim_set 5 (sim_box (sim_lst sim_nil)))
  (sims_cons (sim_for (simi_enum (sim_var 0) F.g_enumerate) (simg_tup (simgs_cons (simg_name 6) (simgs_cons (simg_name 7) simgs_nil))) (sims_one (sim_expr (sim_mt append_ok nc_append PySem.F.plainAttrs_list PySem.F.slot_list_append PySem.F.type_list_append (sim_var 5) (sim_cons (sim_callTy tuple_ok nc_tuple F.g_tuple (sim_cons (sim_pure (sim_lc [("x", 8)] (simi_seq (sim_var 7)) (simg_name 8) (simts_one (sim_valT (sim_callB any_ok nc_any F.g_any (sim_cons (sim_pure (sim_lc [("y", 9), ("own", 10)] (simi_seq (sim_var 4)) (simg_tup (simgs_cons (simg_name 9) (simgs_cons (simg_name 10) simgs_nil))) simts_nil (sim_and (sim_cmp eq_ok nc_eq (sim_var 9) (sim_var 8)) (sim_one (sim_fn ((ok_counts_at X ns F).mono (by decide)) (sim_cons (sim_var 1) (sim_cons (sim_var 2) (sim_cons (sim_var 3) (sim_cons (sim_var 10) (sim_cons (sim_var 6) sim_nil)))))))))) sim_nil)))) (sim_var 8))) sim_nil)) sim_nil)))))
  (sims_one (sim_ret (sim_callTy tuple_ok nc_tuple F.g_tuple (sim_cons (sim_var 5) sim_nil))))))
theorem ok_is_spread (X : G.K.In h) (ns : h.Ns mainGlobals G.mg) (F : Facts G) : Fn G 1 "is_spread" 2 f_is_spread [] := Fn.of X ns F.d_is_spread sc_is_spread (fun _ _ _ _ _ _ us hl => match us, hl with | [_, _], _ => rfl)
  (sims_cons (sim_set 2 sim_dict0)
  (sims_cons (sim_for (simi_seq (sim_var 0)) (simg_tup (simgs_cons (simg_name 3) (simgs_cons (simg_name 4) simgs_nil))) (sims_cons (sim_expr (sim_setd (sim_var 2) (sim_var 4) (sim_box (sim_lst sim_nil))))
  (sims_cons (sim_ifS (sim_cmpT in_ok nc_in (sim_var 3) (sim_dix (sim_var 2) (sim_var 4))) (sims_one (sim_ret sim_bl)) sims_nil)
  (sims_one (sim_expr (sim_mt append_ok nc_append PySem.F.plainAttrs_list PySem.F.slot_list_append PySem.F.type_list_append (sim_dix (sim_var 2) (sim_var 4)) (sim_cons (sim_var 3) sim_nil)))))))
  (sims_one (sim_ret (sim_lock 2 (sim_callB all_ok nc_all F.g_all (sim_cons (sim_pure (sim_lc [("houses", 5)] (simi_vals (sim_var 2)) (simg_name 5) simts_nil (sim_cmp le_ok nc_le (sim_callB len_ok nc_len F.g_len (sim_cons (sim_var 5) sim_nil)) (sim_var 1)))) sim_nil)))))))
theorem ok__law_lots (X : G.K.In h) (ns : h.Ns mainGlobals G.mg) (F : Facts G) : Fn G 10 "_law_lots" 1 f__law_lots [] := Fn.of X ns F.d__law_lots sc__law_lots (fun _ _ _ _ _ _ us hl => match us, hl with | [_], _ => rfl)
  (sims_cons (sim_asg (sim_fn ((ok__law_numbers X ns F).mono (by decide)) (sim_cons (sim_var 0) sim_nil)) (simg_tup (simgs_cons (simg_name 9) (simgs_cons (simg_name 10) (simgs_cons (simg_name 11) simgs_nil)))))
  (sims_cons (sim_set 1 (sim_box (sim_lst sim_nil)))
  (sims_cons (sim_for (simi_rng1 (sim_cons (sim_op add_ok nc_add sim_int (sim_fn ((ok__law_take X ns F).mono (by decide)) (sim_cons (sim_var 0) (sim_cons sim_int sim_nil)))) sim_nil) F.g_range) (simg_name 2) (sims_one (sim_expr (sim_mt append_ok nc_append PySem.F.plainAttrs_list PySem.F.slot_list_append PySem.F.type_list_append (sim_var 1) (sim_cons (sim_fn ((ok__law_part X ns F).mono (by decide)) (sim_cons (sim_var 0) (sim_cons (sim_pure (sim_lrng1 sim_int (hm := F.g_list) (hm2 := F.g_range))) (sim_cons (sim_op add_ok nc_add sim_int (sim_fn ((ok__law_take X ns F).mono (by decide)) (sim_cons (sim_var 0) (sim_cons sim_int sim_nil)))) sim_nil)))) sim_nil)))))
  (sims_cons (sim_set 3 (sim_box (sim_lst sim_nil)))
  (sims_cons (sim_for (simi_rng1 (sim_cons (sim_fn ((ok__law_take X ns F).mono (by decide)) (sim_cons (sim_var 0) (sim_cons sim_int sim_nil))) sim_nil) F.g_range) (simg_name 4) (sims_one (sim_expr (sim_mt append_ok nc_append PySem.F.plainAttrs_list PySem.F.slot_list_append PySem.F.type_list_append (sim_var 3) (sim_cons (sim_tup (sim_cons (sim_fn ((ok__law_take X ns F).mono (by decide)) (sim_cons (sim_var 0) (sim_cons sim_int sim_nil))) (sim_cons (sim_fn ((ok__law_take X ns F).mono (by decide)) (sim_cons (sim_var 0) (sim_cons (sim_op add_ok nc_add (sim_op add_ok nc_add (sim_callB len_ok nc_len F.g_len (sim_cons (sim_var 1) sim_nil)) (sim_var 9)) sim_int) sim_nil))) sim_nil))) sim_nil)))))
  (sims_cons (sim_set 5 (sim_box (sim_lst sim_nil)))
  (sims_cons (sim_for (simi_rng1 (sim_cons (sim_callB len_ok nc_len F.g_len (sim_cons (sim_var 1) sim_nil)) sim_nil) F.g_range) (simg_name 2) (sims_one (sim_expr (sim_lock 3 (sim_mt append_ok nc_append PySem.F.plainAttrs_list PySem.F.slot_list_append PySem.F.type_list_append (sim_var 5) (sim_cons (sim_callTy tuple_ok nc_tuple F.g_tuple (sim_cons (sim_pure (sim_lc [("x", 12)] (simi_seq (sim_ix (sim_var 1) (sim_var 2))) (simg_name 12) (simts_one (sim_valT (sim_callB any_ok nc_any F.g_any (sim_cons (sim_pure (sim_lc [("y", 13), ("own", 14)] (simi_seq (sim_var 3)) (simg_tup (simgs_cons (simg_name 13) (simgs_cons (simg_name 14) simgs_nil))) simts_nil (sim_and (sim_cmp eq_ok nc_eq (sim_var 13) (sim_var 12)) (sim_one (sim_fn ((ok__law_has X ns F).mono (by decide)) (sim_cons (sim_var 9) (sim_cons (sim_var 10) (sim_cons (sim_var 11) (sim_cons (sim_var 14) (sim_cons (sim_var 2) sim_nil)))))))))) sim_nil)))) (sim_var 12))) sim_nil)) sim_nil))))))
  (sims_cons (sim_ifS (sim_notT (sim_valT (sim_fn (((ok__law_same X ns F 8)).mono (by decide)) (sim_cons (sim_fn ((ok_counted_long X ns F).mono (by decide)) (sim_cons (sim_callTy tuple_ok nc_tuple F.g_tuple (sim_cons (sim_var 1) sim_nil)) (sim_cons (sim_var 9) (sim_cons (sim_var 10) (sim_cons (sim_var 11) (sim_cons (sim_callTy tuple_ok nc_tuple F.g_tuple (sim_cons (sim_var 3) sim_nil)) sim_nil)))))) (sim_cons (sim_callTy tuple_ok nc_tuple F.g_tuple (sim_cons (sim_var 5) sim_nil)) sim_nil))))) (sims_one (sim_ret sim_bl)) sims_nil)
  (sims_cons (sim_set 6 (sim_fn ((ok__law_take X ns F).mono (by decide)) (sim_cons (sim_var 0) (sim_cons sim_int sim_nil))))
  (sims_cons (sim_set 7 (sim_lock 3 (sim_callB max_ok nc_max F.g_max (sim_cons (sim_op add_ok nc_add (sim_pure (sim_lst (sim_cons sim_int sim_nil))) (sim_pure (sim_lc [("y", 13), ("own", 14)] (simi_seq (sim_var 3)) (simg_tup (simgs_cons (simg_name 13) (simgs_cons (simg_name 14) simgs_nil))) simts_nil (sim_callB len_ok nc_len F.g_len (sim_cons (sim_pure (sim_lc [("x", 12), ("other", 15)] (simi_seq (sim_var 3)) (simg_tup (simgs_cons (simg_name 12) (simgs_cons (simg_name 15) simgs_nil))) (simts_one (sim_cmpT eq_ok nc_eq (sim_var 15) (sim_var 14))) sim_int)) sim_nil))))) sim_nil))))
  (sims_cons (sim_set 8 (sim_and (sim_cmp eq_ok nc_eq (sim_lenset (sim_var 3) F.g_len F.g_set) (sim_callB len_ok nc_len F.g_len (sim_cons (sim_var 3) sim_nil))) (sim_one (sim_cmp le_ok nc_le (sim_var 7) (sim_var 6)))))
  (sims_one (sim_ret (sim_and (sim_fn (((ok__law_same X ns F 8)).mono (by decide)) (sim_cons (sim_fn ((ok_is_spread X ns F).mono (by decide)) (sim_cons (sim_callTy tuple_ok nc_tuple F.g_tuple (sim_cons (sim_var 3) sim_nil)) (sim_cons (sim_var 6) sim_nil))) (sim_cons (sim_var 8) sim_nil))) (sim_one (sim_fn (((ok__law_same X ns F 8)).mono (by decide)) (sim_cons (sim_fn ((ok_is_spread X ns F).mono (by decide)) (sim_cons (sim_tup sim_nil) (sim_cons (sim_var 6) sim_nil))) (sim_cons sim_bl sim_nil))))))))))))))))))
theorem ok_worst_looks (X : G.K.In h) (ns : h.Ns mainGlobals G.mg) (F : Facts G) : Fn G 2 "worst_looks" 6 f_worst_looks [] := Fn.of X ns F.d_worst_looks sc_worst_looks (fun _ _ _ _ _ _ us hl => match us, hl with | [_, _, _, _, _, _], _ => rfl)
  (sims_cons (sim_asg (sim_tup (sim_cons (sim_fn ((ok_first_own X ns F).mono (by decide)) (sim_cons (sim_var 3) (sim_cons (sim_var 5) sim_nil))) (sim_cons (sim_fn ((ok_last_own X ns F).mono (by decide)) (sim_cons (sim_var 2) (sim_cons (sim_var 3) (sim_cons (sim_var 4) (sim_cons (sim_var 5) sim_nil))))) sim_nil))) (simg_tup (simgs_cons (simg_name 6) (simgs_cons (simg_name 7) simgs_nil))))
  (sims_cons (sim_ifS (sim_cmpT ge_ok nc_ge (sim_var 7) (sim_con F.c_MOST_MAPS)) (sims_one (sim_raise F.x_Refused sim_str)) sims_nil)
  (sims_one (sim_ret (sim_if (sim_cmpT gt_ok nc_gt (sim_var 1) sim_int) (sim_callTy tuple_ok nc_tuple F.g_tuple (sim_cons (sim_pure (sim_lc [("x", 8)] (simi_rng1 (sim_cons (sim_callB min_ok nc_min F.g_min (sim_cons (sim_var 0) (sim_cons (sim_op mul_ok nc_mul (sim_var 1) (sim_op add_ok nc_add (sim_op sub_ok nc_sub (sim_var 7) (sim_var 6)) sim_int)) sim_nil))) sim_nil) F.g_range) (simg_name 8) simts_nil (sim_tup (sim_cons (sim_var 8) (sim_cons (sim_op add_ok nc_add (sim_var 6) (sim_op div_ok nc_div (sim_var 8) (sim_var 1))) sim_nil))))) sim_nil)) (sim_tup sim_nil))))))
theorem ok_kept_copies (X : G.K.In h) (ns : h.Ns mainGlobals G.mg) (F : Facts G) : Fn G 2 "kept_copies" 6 f_kept_copies [] := Fn.ofD 6 1 X ns F.d_kept_copies sc_kept_copies (by simp) rfl (fun _ _ _ _ _ _ _ us its hl h2 => match us, its, hl, h2 with | [_, _, _, _, _, _], [_], _, _ => ⟨_, rfl, rfl⟩) (fun _ _ _ => .nil)
  (sims_one (sim_ret (sim_op add_ok nc_add (sim_op add_ok nc_add (sim_op mul_ok nc_mul (sim_if (sim_valT (sim_var 5)) sim_int sim_int) (sim_var 0)) (sim_op mul_ok nc_mul (sim_var 1) (sim_fn ((ok_kept X ns F).mono (by decide)) (sim_cons (sim_var 2) (sim_cons (sim_var 3) (sim_cons (sim_var 4) sim_nil)))))) sim_int)))
theorem ok_kept_copies_d1 (X : G.K.In h) (ns : h.Ns mainGlobals G.mg) (F : Facts G) : Fn G 2 "kept_copies" 6 f_kept_copies [(.bl false)] := Fn.ofD 5 0 X ns F.d_kept_copies sc_kept_copies (by simp) rfl (fun _ _ _ _ _ _ _ us its hl h2 => match us, its, hl, h2 with | [_, _, _, _, _], [_], _, _ => ⟨_, rfl, rfl⟩) (fun _ _ _ => (.cons (.bl _) .nil))
  (sims_one (sim_ret (sim_op add_ok nc_add (sim_op add_ok nc_add (sim_op mul_ok nc_mul (sim_if (sim_valT (sim_var 5)) sim_int sim_int) (sim_var 0)) (sim_op mul_ok nc_mul (sim_var 1) (sim_fn ((ok_kept X ns F).mono (by decide)) (sim_cons (sim_var 2) (sim_cons (sim_var 3) (sim_cons (sim_var 4) sim_nil)))))) sim_int)))
theorem ok_most_counted (X : G.K.In h) (ns : h.Ns mainGlobals G.mg) (F : Facts G) : Fn G 2 "most_counted" 6 f_most_counted [] := Fn.of X ns F.d_most_counted sc_most_counted (fun _ _ _ _ _ _ us hl => match us, hl with | [_, _, _, _, _, _], _ => rfl)
  (sims_one (sim_ret (sim_callB min_ok nc_min F.g_min (sim_cons (sim_var 0) (sim_cons (sim_op add_ok nc_add (sim_var 1) (sim_op mul_ok nc_mul (sim_var 2) (sim_fn ((ok_kept X ns F).mono (by decide)) (sim_cons (sim_var 3) (sim_cons (sim_var 4) (sim_cons (sim_var 5) sim_nil)))))) sim_nil)))))
theorem ok__law_worst (X : G.K.In h) (ns : h.Ns mainGlobals G.mg) (F : Facts G) : Fn G 10 "_law_worst" 1 f__law_worst [] := Fn.of X ns F.d__law_worst sc__law_worst (fun _ _ _ _ _ _ us hl => match us, hl with | [_], _ => rfl)
  (sims_cons (sim_asg (sim_fn ((ok__law_numbers X ns F).mono (by decide)) (sim_cons (sim_var 0) sim_nil)) (simg_tup (simgs_cons (simg_name 7) (simgs_cons (simg_name 8) (simgs_cons (simg_name 9) simgs_nil)))))
  (sims_cons (sim_asg (sim_tup (sim_cons (sim_op add_ok nc_add sim_int (sim_fn ((ok__law_take X ns F).mono (by decide)) (sim_cons (sim_var 0) (sim_cons sim_int sim_nil)))) (sim_cons (sim_fn ((ok__law_take X ns F).mono (by decide)) (sim_cons (sim_var 0) (sim_cons sim_int sim_nil))) (sim_cons (sim_fn ((ok__law_take X ns F).mono (by decide)) (sim_cons (sim_var 0) (sim_cons sim_int sim_nil))) sim_nil)))) (simg_tup (simgs_cons (simg_name 10) (simgs_cons (simg_name 11) (simgs_cons (simg_name 12) simgs_nil)))))
  (sims_cons (sim_set 1 (sim_fn ((ok__law_pick X ns F).mono (by decide)) (sim_cons (sim_var 0) (sim_cons (sim_pure (sim_lst (sim_cons sim_int (sim_cons (sim_op mul_ok nc_mul (sim_var 8) (sim_fn ((ok__law_take X ns F).mono (by decide)) (sim_cons (sim_var 0) (sim_cons sim_int sim_nil)))) (sim_cons (sim_fn ((ok__law_take X ns F).mono (by decide)) (sim_cons (sim_var 0) (sim_cons sim_int sim_nil))) sim_nil))))) sim_nil))))
  (sims_cons (sim_setlc 2 [("own", 14)] (simi_rng1 (sim_cons (sim_op add_ok nc_add (sim_op add_ok nc_add (sim_op add_ok nc_add (sim_op add_ok nc_add (sim_var 1) (sim_var 7)) (sim_var 8)) (sim_var 9)) sim_int) sim_nil) F.g_range) (simg_name 14) (simts_one (sim_valT (sim_fn ((ok__law_has X ns F).mono (by decide)) (sim_cons (sim_var 7) (sim_cons (sim_var 8) (sim_cons (sim_var 9) (sim_cons (sim_var 14) (sim_cons (sim_var 1) sim_nil)))))))) (sim_var 14))
  (sims_cons (sim_set 3 (sim_fn ((ok_worst_looks X ns F).mono (by decide)) (sim_cons (sim_var 10) (sim_cons (sim_var 12) (sim_cons (sim_var 7) (sim_cons (sim_var 8) (sim_cons (sim_var 9) (sim_cons (sim_var 1) sim_nil))))))))
  (sims_cons (sim_ifS (sim_w (sim_orW (sim_notT (sim_valT (sim_isi (sim_var 3) F.g_isinstance F.g_tuple))) (sim_or1 (sim_notT (sim_valT (sim_callB all_ok nc_all F.g_all (sim_cons (sim_pure (sim_lc [("one", 17)] (simi_seq (sim_var 3)) (simg_name 17) simts_nil (sim_and (sim_isi (sim_var 17) F.g_isinstance F.g_tuple) (sim_one (sim_cmp eq_ok nc_eq (sim_callB len_ok nc_len F.g_len (sim_cons (sim_var 17) sim_nil)) sim_int))))) sim_nil))))))) (sims_one (sim_ret sim_bl)) sims_nil)
  (sims_cons (sim_ifS (sim_notT (sim_valT (sim_callB all_ok nc_all F.g_all (sim_cons (sim_pure (sim_lc [("x", 15), ("own", 14)] (simi_seq (sim_var 3)) (simg_tup (simgs_cons (simg_name 15) (simgs_cons (simg_name 14) simgs_nil))) simts_nil (sim_and (sim_fn (((ok__law_same X ns F 8)).mono (by decide)) (sim_cons (sim_var 15) (sim_cons (sim_callTy int_ok nc_int F.g_int (sim_cons (sim_var 15) sim_nil)) sim_nil))) (sim_and (sim_fn (((ok__law_same X ns F 8)).mono (by decide)) (sim_cons (sim_var 14) (sim_cons (sim_callTy int_ok nc_int F.g_int (sim_cons (sim_var 14) sim_nil)) sim_nil))) (sim_one (sim_chain le_ok nc_le lt_ok nc_lt sim_int (sim_var 15) (sim_var 10))))))) sim_nil)))) (sims_one (sim_ret sim_bl)) sims_nil)
  (sims_cons (sim_ifS (sim_w (sim_orW (sim_cmpT ne_ok nc_ne (sim_lenset (sim_var 3) F.g_len F.g_set) (sim_callB len_ok nc_len F.g_len (sim_cons (sim_var 3) sim_nil))) (sim_or1 (sim_valT (sim_callB any_ok nc_any F.g_any (sim_cons (sim_pure (sim_lc [("y", 18), ("own", 14)] (simi_seq (sim_var 3)) (simg_tup (simgs_cons (simg_name 18) (simgs_cons (simg_name 14) simgs_nil))) simts_nil (sim_cmp gt_ok nc_gt (sim_callB len_ok nc_len F.g_len (sim_cons (sim_pure (sim_lc [("x", 15), ("other", 19)] (simi_seq (sim_var 3)) (simg_tup (simgs_cons (simg_name 15) (simgs_cons (simg_name 19) simgs_nil))) (simts_one (sim_cmpT eq_ok nc_eq (sim_var 19) (sim_var 14))) sim_int)) sim_nil)) (sim_var 12)))) sim_nil)))))) (sims_one (sim_ret sim_bl)) sims_nil)
  (sims_cons (sim_setlc 4 [("x", 15)] (simi_rng1 (sim_cons (sim_var 10) sim_nil) F.g_range) (simg_name 15) (simts_one (sim_valT (sim_callB any_ok nc_any F.g_any (sim_cons (sim_pure (sim_lc [("y", 18), ("own", 14)] (simi_seq (sim_var 3)) (simg_tup (simgs_cons (simg_name 18) (simgs_cons (simg_name 14) simgs_nil))) simts_nil (sim_and (sim_cmp eq_ok nc_eq (sim_var 18) (sim_var 15)) (sim_one (sim_fn ((ok__law_has X ns F).mono (by decide)) (sim_cons (sim_var 7) (sim_cons (sim_var 8) (sim_cons (sim_var 9) (sim_cons (sim_var 14) (sim_cons (sim_var 1) sim_nil)))))))))) sim_nil)))) (sim_var 15))
  (sims_cons (sim_ifS (sim_w (sim_orW (sim_cmpT ne_ok nc_ne (sim_callB len_ok nc_len F.g_len (sim_cons (sim_var 4) sim_nil)) (sim_callB min_ok nc_min F.g_min (sim_cons (sim_var 10) (sim_cons (sim_op mul_ok nc_mul (sim_var 12) (sim_callB len_ok nc_len F.g_len (sim_cons (sim_var 2) sim_nil))) sim_nil)))) (sim_or1 (sim_cmpT isnot_ok nc_isnot (sim_fn ((ok_is_spread X ns F).mono (by decide)) (sim_cons (sim_var 3) (sim_cons (sim_var 12) sim_nil))) sim_bl)))) (sims_one (sim_ret sim_bl)) sims_nil)
  (sims_cons (sim_set 5 (sim_callB max_ok nc_max F.g_max (sim_cons (sim_pure (sim_lc [("j", 16)] (simi_rng1 (sim_cons (sim_var 8) sim_nil) F.g_range) (simg_name 16) simts_nil (sim_callB len_ok nc_len F.g_len (sim_cons (sim_pure (sim_lc [("own", 14)] (simi_rng1 (sim_cons (sim_op add_ok nc_add (sim_op add_ok nc_add (sim_op add_ok nc_add (sim_op add_ok nc_add (sim_var 16) (sim_var 7)) (sim_var 8)) (sim_var 9)) sim_int) sim_nil) F.g_range) (simg_name 14) (simts_one (sim_valT (sim_fn ((ok__law_has X ns F).mono (by decide)) (sim_cons (sim_var 7) (sim_cons (sim_var 8) (sim_cons (sim_var 9) (sim_cons (sim_var 14) (sim_cons (sim_var 16) sim_nil)))))))) (sim_var 14))) sim_nil)))) sim_nil)))
  (sims_cons (sim_ifS (sim_notT (sim_valT (sim_fn (((ok__law_same X ns F 8)).mono (by decide)) (sim_cons (sim_fn ((ok_most_counted X ns F).mono (by decide)) (sim_cons (sim_var 10) (sim_cons (sim_var 11) (sim_cons (sim_var 12) (sim_cons (sim_var 7) (sim_cons (sim_var 8) (sim_cons (sim_var 9) sim_nil))))))) (sim_cons (sim_callB min_ok nc_min F.g_min (sim_cons (sim_var 10) (sim_cons (sim_op add_ok nc_add (sim_var 11) (sim_op mul_ok nc_mul (sim_var 12) (sim_var 5))) sim_nil))) sim_nil))))) (sims_one (sim_ret sim_bl)) sims_nil)
  (sims_cons (sim_for (simi_seq (sim_tup (sim_cons sim_bl (sim_cons sim_bl sim_nil)))) (simg_name 6) (sims_cons (sim_set 13 (sim_op add_ok nc_add (sim_op add_ok nc_add (sim_op mul_ok nc_mul (sim_op add_ok nc_add sim_int (sim_callTy int_ok nc_int F.g_int (sim_cons (sim_var 6) sim_nil))) (sim_var 11)) (sim_op mul_ok nc_mul (sim_var 12) (sim_var 5))) sim_int))
  (sims_one (sim_ifS (sim_notT (sim_valT (sim_fn (((ok__law_same X ns F 8)).mono (by decide)) (sim_cons (sim_fn ((ok_kept_copies X ns F).mono (by decide)) (sim_cons (sim_var 11) (sim_cons (sim_var 12) (sim_cons (sim_var 7) (sim_cons (sim_var 8) (sim_cons (sim_var 9) (sim_cons (sim_var 6) sim_nil))))))) (sim_cons (sim_var 13) sim_nil))))) (sims_one (sim_ret sim_bl)) sims_nil))))
  (sims_one (sim_ret (sim_fn (((ok__law_same X ns F 8)).mono (by decide)) (sim_cons (sim_fn ((ok_kept_copies_d1 X ns F).mono (by decide)) (sim_cons (sim_var 11) (sim_cons (sim_var 12) (sim_cons (sim_var 7) (sim_cons (sim_var 8) (sim_cons (sim_var 9) sim_nil)))))) (sim_cons (sim_op add_ok nc_add (sim_op add_ok nc_add (sim_op mul_ok nc_mul sim_int (sim_var 11)) (sim_op mul_ok nc_mul (sim_var 12) (sim_var 5))) sim_int) sim_nil))))))))))))))))))
theorem ok__law_far (X : G.K.In h) (ns : h.Ns mainGlobals G.mg) (F : Facts G) : Fn G 10 "_law_far" 1 f__law_far [] := Fn.of X ns F.d__law_far sc__law_far (fun _ _ _ _ _ _ us hl => match us, hl with | [_], _ => rfl)
  (sims_cons (sim_par2 3 4 (sim_cons (sim_fn ((ok__law_pick X ns F).mono (by decide)) (sim_cons (sim_var 0) (sim_cons (sim_pure (sim_lst (sim_cons sim_int (sim_cons sim_int (sim_cons sim_int sim_nil))))) sim_nil))) (sim_cons sim_int sim_nil)))
  (sims_cons (sim_set 1 (sim_op sub_ok nc_sub (sim_op sub_ok nc_sub (sim_op sub_ok nc_sub sim_int (sim_var 3)) sim_int) (sim_fn ((ok__law_take X ns F).mono (by decide)) (sim_cons (sim_var 0) (sim_cons (sim_op sub_ok nc_sub sim_int (sim_var 3)) sim_nil)))))
  (sims_cons (sim_ifS (sim_notT (sim_valT (sim_fn (((ok__law_same X ns F 8)).mono (by decide)) (sim_cons (sim_callB len_ok nc_len F.g_len (sim_cons (sim_fn ((ok_worst_looks X ns F).mono (by decide)) (sim_cons sim_int (sim_cons sim_int (sim_cons (sim_var 3) (sim_cons (sim_var 4) (sim_cons sim_int (sim_cons (sim_var 1) sim_nil))))))) sim_nil)) (sim_cons sim_int sim_nil))))) (sims_one (sim_ret sim_bl)) sims_nil)
  (sims_cons (sim_tryas 2 F.t_Refused (sims_one (sim_expr (sim_fn ((ok_worst_looks X ns F).mono (by decide)) (sim_cons sim_int (sim_cons sim_int (sim_cons (sim_var 3) (sim_cons (sim_var 4) (sim_cons sim_int (sim_cons (sim_op sub_ok nc_sub sim_int (sim_var 3)) sim_nil))))))))) (su_ret (sx_same ((same_hot X ns F).mono (by decide)) (sx_cons (sx_at (cs := ["Refused"]) (one_ex F.x_Refused)) (sx_cons sx_str sx_nil))) (by decide)) (xRt_noer _ _))
  (sims_one (sim_ret sim_bl))))))
theorem ok_law (X : G.K.In h) (ns : h.Ns mainGlobals G.mg) (F : Facts G) : SimSs G 10 (Sc.of ["script", "k", "box"] (defScope s_law)) (defBody s_law) m_law :=
  (sims_cons (sim_for (simi_rng1 (sim_cons sim_int sim_nil) F.g_range) (simg_name 1) (sims_cons (sim_set 2 (sim_fn ((ok__law_box X ns F).mono (by decide)) (sim_cons (sim_var 0) (sim_cons (sim_var 1) sim_nil))))
  (sims_one (sim_ifS (sim_w (sim_orW (sim_notT (sim_valT (sim_fn ((ok__law_counts X ns F).mono (by decide)) (sim_cons (sim_var 2) sim_nil)))) (sim_orW (sim_notT (sim_valT (sim_fn ((ok__law_lots X ns F).mono (by decide)) (sim_cons (sim_var 2) sim_nil)))) (sim_orW (sim_notT (sim_valT (sim_fn ((ok__law_worst X ns F).mono (by decide)) (sim_cons (sim_var 2) sim_nil)))) (sim_or1 (sim_notT (sim_valT (sim_fn ((ok__law_far X ns F).mono (by decide)) (sim_cons (sim_var 2) sim_nil))))))))) (sims_one (sim_ret sim_bl)) sims_nil))))
  (sims_one (sim_ret sim_bl)))
theorem facts (X : G.K.In h) (ns : h.Ns mainGlobals G.mg) (d__law_box : DefAt G.K "_law_box" s__law_box) (d__law_take : DefAt G.K "_law_take" s__law_take) (d__law_pick : DefAt G.K "_law_pick" s__law_pick) (d__law_numbers : DefAt G.K "_law_numbers" s__law_numbers) (d__law_same : DefAt G.K "_law_same" s__law_same) (d__law_has : DefAt G.K "_law_has" s__law_has) (d_kept : DefAt G.K "kept" s_kept) (d_pens_from : DefAt G.K "pens_from" s_pens_from) (d_counts_at : DefAt G.K "counts_at" s_counts_at) (d_first_own : DefAt G.K "first_own" s_first_own) (d_last_own : DefAt G.K "last_own" s_last_own) (d__law_counts : DefAt G.K "_law_counts" s__law_counts) (d__law_part : DefAt G.K "_law_part" s__law_part) (d_counted_long : DefAt G.K "counted_long" s_counted_long) (d_is_spread : DefAt G.K "is_spread" s_is_spread) (d__law_lots : DefAt G.K "_law_lots" s__law_lots) (d_worst_looks : DefAt G.K "worst_looks" s_worst_looks) (d_kept_copies : DefDAt G.K "kept_copies" s_kept_copies [(V.bl false)]) (d_most_counted : DefAt G.K "most_counted" s_most_counted) (d__law_worst : DefAt G.K "_law_worst" s__law_worst) (d__law_far : DefAt G.K "_law_far" s__law_far) (d_law : DefAt G.K "law" s_law) (g_abs : PySem.W.nsIn G.K mainGlobals "abs" = some none) (g_all : PySem.W.nsIn G.K mainGlobals "all" = some none) (g_any : PySem.W.nsIn G.K mainGlobals "any" = some none) (g_bool : PySem.W.nsIn G.K mainGlobals "bool" = some none) (g_enumerate : PySem.W.nsIn G.K mainGlobals "enumerate" = some none) (g_int : PySem.W.nsIn G.K mainGlobals "int" = some none) (g_isinstance : PySem.W.nsIn G.K mainGlobals "isinstance" = some none) (g_len : PySem.W.nsIn G.K mainGlobals "len" = some none) (g_list : PySem.W.nsIn G.K mainGlobals "list" = some none) (g_max : PySem.W.nsIn G.K mainGlobals "max" = some none) (g_min : PySem.W.nsIn G.K mainGlobals "min" = some none) (g_range : PySem.W.nsIn G.K mainGlobals "range" = some none) (g_set : PySem.W.nsIn G.K mainGlobals "set" = some none) (g_sorted : PySem.W.nsIn G.K mainGlobals "sorted" = some none) (g_str : PySem.W.nsIn G.K mainGlobals "str" = some none) (g_tuple : PySem.W.nsIn G.K mainGlobals "tuple" = some none) {tok_MOST_MAPS : Tok} (c_MOST_MAPS : PySem.W.nsIn G.K mainGlobals "MOST_MAPS" = some (some (.int 200 tok_MOST_MAPS))) (x_Refused : ExAt G.K G.P "Refused") (t_Refused : CatAt G.K "Refused" "Refused" true) (g_super : PySem.W.nsIn G.K mainGlobals "super" = some none) : Facts G :=
  ⟨d__law_box, d__law_take, d__law_pick, d__law_numbers, d__law_same, d__law_has, d_kept, d_pens_from, d_counts_at, d_first_own, d_last_own, d__law_counts, d__law_part, d_counted_long, d_is_spread, d__law_lots, d_worst_looks, d_kept_copies, d_most_counted, d__law_worst, d__law_far, d_law, PySem.W.mg_none_of X ns g_abs, PySem.W.mg_none_of X ns g_all, PySem.W.mg_none_of X ns g_any, PySem.W.mg_none_of X ns g_bool, PySem.W.mg_none_of X ns g_enumerate, PySem.W.mg_none_of X ns g_int, PySem.W.mg_none_of X ns g_isinstance, PySem.W.mg_none_of X ns g_len, PySem.W.mg_none_of X ns g_list, PySem.W.mg_none_of X ns g_max, PySem.W.mg_none_of X ns g_min, PySem.W.mg_none_of X ns g_range, PySem.W.mg_none_of X ns g_set, PySem.W.mg_none_of X ns g_sorted, PySem.W.mg_none_of X ns g_str, PySem.W.mg_none_of X ns g_tuple, con_int X ns c_MOST_MAPS, x_Refused.ex' X ns g_super, Cat.one X ns t_Refused (fun _ => rfl)⟩
end
end Kq

namespace Kq
open PySem PySem.Spec Kp
/-! ## the draws -/
def Box (st : Sto) (b : Nat) : Prop := ∃ c x y : Int, st[b]? = some (.lst [.int c, .int x, .int y])
def BoxTo (b : Nat) (st st' : Sto) : Prop := ∃ c x y : Int, st' = st.set b (.lst [.int c, .int x, .int y])
theorem BoxTo.box {b : Nat} {st st' : Sto} (h : BoxTo b st st') (hb : Box st b) : Box st' b := by
  obtain ⟨c, x, y, rfl⟩ := h
  obtain ⟨_, _, _, e⟩ := hb
  exact ⟨c, x, y, set_at e⟩
theorem BoxTo.trans {b : Nat} {s1 s2 s3 : Sto} (h : BoxTo b s1 s2) (h' : BoxTo b s2 s3) : BoxTo b s1 s3 := by
  obtain ⟨c, x, y, rfl⟩ := h
  obtain ⟨c', x', y', rfl⟩ := h'
  exact ⟨c', x', y', by rw [List.set_set]⟩
theorem BoxTo.at {b n : Nat} {st st' : Sto} (h : BoxTo b st st') (hn : b ≠ n) : st'[n]? = st[n]? := by
  obtain ⟨c, x, y, rfl⟩ := h
  exact set_ne hn
theorem BoxTo.len {b : Nat} {st st' : Sto} (h : BoxTo b st st') : st'.length = st.length := by
  obtain ⟨c, x, y, rfl⟩ := h
  exact List.length_set
theorem box_ix {st : Sto} {b : Nat} {c x y : Int} (h : st[b]? = some (.lst [.int c, .int x, .int y])) : gIx (.ref b) (.int 0) st = .ok (.int c) st ∧ gIx (.ref b) (.int 1) st = .ok (.int x) st ∧ gIx (.ref b) (.int 2) st = .ok (.int y) st :=
  ⟨xix (seqO_ref h) rfl, xix (seqO_ref h) rfl, xix (seqO_ref h) rfl⟩
theorem box_put {st : Sto} {b : Nat} {c x y : Int} {ρ : En} {d : D} (h : st[b]? = some (.lst [.int c, .int x, .int y])) :
    tPut (mVar 0) (mC (.int 0)) d (some (.ref b) :: ρ) st = some (some (.ref b) :: ρ, st.set b (.lst [d, .int x, .int y])) ∧ tPut (mVar 0) (mC (.int 1)) d (some (.ref b) :: ρ) st = some (some (.ref b) :: ρ, st.set b (.lst [.int c, d, .int y])) ∧
    tPut (mVar 0) (mC (.int 2)) d (some (.ref b) :: ρ) st = some (some (.ref b) :: ρ, st.set b (.lst [.int c, .int x, d])) := by
  refine ⟨?_, ?_, ?_⟩ <;> simp [tPut, h, L2.ixN]
theorem take_ok {st : Sto} {b : Nat} {n : Int} (hb : Box st b) (hn : 0 < n) (hn2 : n < 2 ^ 64) : ∃ t st', f__law_take [.ref b, .int n] st = .ok (.int t) st' ∧ 0 ≤ t ∧ t < n ∧ BoxTo b st st' := by
  obtain ⟨c, x, y, h⟩ := hb
  obtain ⟨i0, i1, i2⟩ := box_ix h
  by_cases hc : 0 < c
  · refine ⟨c % n, st.set b (.lst [.int (c / n), .int x, .int y]), ?_, Int.emod_nonneg _ (by omega), Int.emod_lt_of_pos _ hn, ⟨_, _, _, rfl⟩⟩
    have p := fun (ρ : En) (d : D) => (box_put (ρ := ρ) (d := d) h).1
    simp [f__law_take, m__law_take, run_is, i0, hc, xmod hn, xdiv hn hn2, p]
  · obtain ⟨i0', i1', i2'⟩ := box_ix (set_at (v := .lst [.int c, .int x, .int (y + 1)]) h)
    have p2 := fun (ρ : En) (d : D) => (box_put (ρ := ρ) (d := d) h).2.2
    have p1 := fun (ρ : En) (d : D) => (box_put (ρ := ρ) (d := d) (set_at (v := .lst [.int c, .int x, .int (y + 1)]) h)).2.1
    have q1 := fun (z : Int) => (box_ix (c := c) (x := z) (y := y + 1) (set_at (v := .lst [.int c, .int z, .int (y + 1)]) h)).2.1
    obtain ⟨raw, hraw⟩ : ∃ raw : Int, raw = ((x + 70003 * (y + 1)) * 50051 + 307) % 2147483543 := ⟨_, rfl⟩
    obtain ⟨x', hx'⟩ : ∃ x' : Int, x' = (raw * 40013 + 30011) % 2147483629 + 1 := ⟨_, rfl⟩
    refine ⟨(raw * 2147483647 + x') / 4099 % n, st.set b (.lst [.int c, .int x', .int (y + 1)]), ?_, Int.emod_nonneg _ (show n ≠ 0 by omega), Int.emod_lt_of_pos _ hn, ⟨_, _, _, rfl⟩⟩
    simp [f__law_take, m__law_take, run_is, i0, i1', i2, i2', hc, xmod hn, p2, p1, xmulL, xmulR, xmod, xdiv, q1, ← hraw, ← hx']
/-- what is drawn is one of them -/
theorem pick_ok {st : Sto} {b : Nat} {ds : List D} (hb : Box st b) (hn : ds ≠ []) (hn2 : ds.length < 2 ^ 60) : ∃ d st', f__law_pick [.ref b, .lst ds] st = .ok d st' ∧ d ∈ ds ∧ BoxTo b st st' := by
  have hp : 0 < ds.length := List.length_pos_iff.mpr hn
  obtain ⟨t, st', e, h1, h2, h3⟩ := take_ok (n := ds.length) hb (by omega) (by omega)
  have hl : t.toNat < ds.length := by omega
  refine ⟨ds[t.toNat], st', ?_, List.getElem_mem hl, h3⟩
  simp [f__law_pick, m__law_pick, run_is, e, xix (seqO_lst) (atI_nat h1 (List.getElem?_eq_getElem hl))]
theorem numbers_ok {st : Sto} {b : Nat} (hb : Box st b) : ∃ d r q st', f__law_numbers [.ref b] st = .ok (.tup [.int d, .int r, .int q]) st' ∧ 0 ≤ d ∧ d < 10 ∧ 1 ≤ r ∧ r ≤ 9 ∧ 0 ≤ q ∧ q < 10 ∧ BoxTo b st st' := by
  obtain ⟨d, s1, e1, h1, h2, x1⟩ := take_ok (n := 10) hb (by decide) (by decide)
  obtain ⟨r, s2, e2, h3, h4, x2⟩ := take_ok (n := 9) (x1.box hb) (by decide) (by decide)
  obtain ⟨z, s3, e3, h5, h6, x3⟩ := take_ok (n := 10) (x2.box (x1.box hb)) (by decide) (by decide)
  obtain ⟨v, s4, e4, h7, x4⟩ := pick_ok (ds := [.int 0, .int 0, .int 1, .int z]) (x3.box (x2.box (x1.box hb))) (by simp) (by simp)
  have hv : ∃ q : Int, v = .int q ∧ 0 ≤ q ∧ q < 10 := by
    simp only [List.mem_cons, List.not_mem_nil, or_false] at h7
    rcases h7 with h | h | h | h <;> exact ⟨_, h, by omega, by omega⟩
  obtain ⟨q, rfl, h8, h9⟩ := hv
  refine ⟨d, 1 + r, q, s4, ?_, h1, h2, by omega, by omega, h8, h9, ((x1.trans x2).trans x3).trans x4⟩
  simp [f__law_numbers, m__law_numbers, run_is, e1, e2, e3, e4, szMax]
/-! ## the program's defs on numbers -/
theorem kept_is {st : Sto} {d r q : Int} : f_kept [.int d, .int r, .int q] st = .ok (.int (d + r + q)) st := by simp [f_kept, m_kept, run_is]
theorem first_is {st : Sto} {r i : Int} (hr : 0 < r) (h2 : r < 2 ^ 60) : f_first_own [.int r, .int i] st = .ok (.int (r * (i / r))) st := by
  simp [f_first_own, m_first_own, run_is, xdiv hr (by omega), xmulL (show r.natAbs < 2 ^ 64 by omega)]
theorem last_is {st : Sto} {d r q i : Int} (hr : 0 < r) (h2 : r < 2 ^ 60) : f_last_own [.int d, .int r, .int q, .int i] st = .ok (.int (max (i + d + q) (r * (i / r) + r - 1 + d))) st := by
  simp [f_last_own, m_last_own, run_is, xdiv hr (by omega), xmulL (show r.natAbs < 2 ^ 64 by omega)]
theorem pens_is {st : Sto} {d r own : Int} (hr : 0 < r) (h2 : r < 2 ^ 60) : f_pens_from [.int d, .int r, .int own] st = .ok (.int (r * (max 0 (own - d) / r))) st := by
  simp [f_pens_from, m_pens_from, run_is, xdiv hr (show r < 2 ^ 64 by omega), xmulL (show r.natAbs < 2 ^ 64 by omega)]
/-- does own count at i? -/
def cnt (d r q own i : Int) : Bool := decide (i ≤ own ∧ own ≤ i + d + q) || decide (r * (max 0 (own - d) / r) ≤ i ∧ i < r * (own / r) + r)
theorem counts_is {st : Sto} {d r q own i : Int} (hr : 0 < r) (h2 : r < 2 ^ 60) : f_counts_at [.int d, .int r, .int q, .int own, .int i] st = .ok (.bl (cnt d r q own i)) st := by
  unfold cnt
  by_cases h1 : i ≤ own <;> by_cases h3 : own ≤ i + d + q <;> by_cases h4 : r * (max 0 (own - d) / r) ≤ i <;> by_cases h5 : i < r * (own / r) + r <;>
    simp [f_counts_at, m_counts_at, run_is, pens_is hr h2, xdiv hr (show r < 2 ^ 64 by omega), xmulL (show r.natAbs < 2 ^ 64 by omega), h1, h3, h4, h5]
end Kq

namespace Kq
open PySem PySem.Spec Kp
/-! ## ranges -/
def rngI (lo : Int) (n : Nat) : List Int := (List.range n).map fun i : Nat => lo + (i : Int)
theorem rngD_is (lo : Int) (n : Nat) : rngD lo n = (rngI lo n).map .int := by unfold rngD rngI; rw [List.map_map]; rfl
theorem mem_rng {lo j : Int} {n : Nat} : j ∈ rngI lo n ↔ lo ≤ j ∧ j < lo + n := by
  unfold rngI
  rw [List.mem_map]
  refine ⟨fun ⟨i, h, e⟩ => ?_, fun h => ⟨(j - lo).toNat, List.mem_range.mpr (by omega), by omega⟩⟩
  have := List.mem_range.mp h
  omega
theorem rng_len (lo : Int) (n : Nat) : (rngI lo n).length = n := by simp [rngI]
theorem xrng1 {st : Sto} {j : Int} (h : -(2 ^ 62) ≤ j) (h2 : j < 2 ^ 62) : rng1 [.int j] st = .ok ((rngI 0 j.toNat).map .int) st := by rw [← rngD_is]; show (if _ then _ else _) = _; rw [if_pos ⟨h, h2⟩]
theorem xrng2 {st : Sto} {i j : Int} (h : -(2 ^ 62) ≤ i) (h2 : i < 2 ^ 62) (h3 : -(2 ^ 62) ≤ j) (h4 : j < 2 ^ 62) : rng2 [.int i, .int j] st = .ok ((rngI i (j - i).toNat).map .int) st := by rw [← rngD_is]; show (if _ then _ else _) = _; rw [if_pos ⟨h, h2, h3, h4⟩]
/-! ## in, of ints -/
theorem toPys_ints (xs : List Int) : toPys (xs.map D.int) = some (xs.map PyData.int) := by
  induction xs with
  | nil => simp [toPys]
  | cons x xs ih => simp [toPys, toPy, ih]
theorem lay_ints (xs : List Int) : PyData.canLayAll0 (xs.map PyData.int) = true := by
  induction xs with
  | nil => simp [PyData.canLayAll0]
  | cons x xs ih => simp [PyData.canLayAll0, PyData.canLay0, ih]
theorem dep_ints (xs : List Int) : PyData.depthAll (xs.map PyData.int) ≤ 1 := by
  induction xs with
  | nil => simp [PyData.depthAll]
  | cons x xs ih => simp [PyData.depthAll, PyData.depth]; omega
theorem any_ints (i : Int) (xs : List Int) : ((xs.map PyData.int).any fun z => PyData.eqv z (.int i)) = decide (i ∈ xs) := by
  induction xs with
  | nil => rfl
  | cons x xs ih =>
    rw [List.map_cons, List.any_cons, ih]
    by_cases h : x = i
    · subst h; simp [PyData.eqv]
    · have h' : ¬ i = x := fun e => h e.symm
      simp [PyData.eqv, h, h']
theorem xin {st : Sto} {i : Int} {xs : List Int} : gIn (.int i) (.lst (xs.map .int)) st = .ok (.bl (decide (i ∈ xs))) st := by
  have h : hasD (.int i) (.lst (xs.map .int)) st = some (decide (i ∈ xs)) := by
    unfold hasD
    simp only [dref, toPy, toPys_ints, Option.map_some]
    rw [if_pos ⟨by simp [SeqAt.shaped, PyData.canLay0, PyData.depth], by have := dep_ints xs; simp [SeqAt.shaped, PyData.canLay0, PyData.depth, lay_ints]; omega⟩, any_ints]
  unfold gIn
  rw [h]
theorem xeq {st : Sto} {i j : Int} : gEq (.int i) (.int j) st = .ok (.bl (decide (i = j))) st := by
  have h : eqvD (.int i) (.int j) st = some (decide (i = j)) := by
    unfold eqvD
    simp only [dref, toPy]
    rw [if_pos ⟨by simp [SeqAt.shaped, PyData.canLay0, PyData.depth], by simp [SeqAt.shaped, PyData.canLay0, PyData.depth]⟩]
    by_cases z : i = j <;> simp [PyData.eqv, z]
  unfold gEq
  rw [h]
theorem xne {st : Sto} {i j : Int} : gNe (.int i) (.int j) st = .ok (.bl (decide (i ≠ j))) st := by
  have h : eqvD (.int i) (.int j) st = some (decide (i = j)) := by
    unfold eqvD
    simp only [dref, toPy]
    rw [if_pos ⟨by simp [SeqAt.shaped, PyData.canLay0, PyData.depth], by simp [SeqAt.shaped, PyData.canLay0, PyData.depth]⟩]
    by_cases z : i = j <;> simp [PyData.eqv, z]
  unfold gNe
  rw [h]
  by_cases z : i = j <;> simp [z]
theorem eqv_ints (xs : List Int) : PyData.eqvAll (xs.map PyData.int) (xs.map PyData.int) = true := by
  induction xs with
  | nil => simp [PyData.eqvAll]
  | cons x xs ih => simp [PyData.eqvAll, PyData.eqv, ih]
theorem xne_ints {st : Sto} {xs : List Int} : gNe (.lst (xs.map .int)) (.lst (xs.map .int)) st = .ok (.bl false) st := by
  have h : eqvD (.lst (xs.map .int)) (.lst (xs.map .int)) st = some true := by
    unfold eqvD
    simp only [dref, toPy, toPys_ints, Option.map_some]
    have hs : SeqAt.shaped (.list (xs.map PyData.int)) = true := by have := dep_ints xs; simp [SeqAt.shaped, PyData.canLay0, PyData.depth, lay_ints]; omega
    rw [if_pos ⟨hs, hs⟩]
    simp [PyData.eqv, eqv_ints]
  unfold gNe
  rw [h]
  rfl
/-! ## a thing is the same as itself -/
def plainD : Nat → D → Prop
  | 0, _ => False
  | n + 1, d => (∃ b, d = .bl b) ∨ (∃ i, d = .int i) ∨ ∃ ds, d = .tup ds ∧ ds.length ≤ 1000 ∧ ∀ x ∈ ds, plainD n x
theorem subT_is : subT "int" "str" = false ∧ subT "int" "int" = true ∧ subT "int" "bool" = false ∧ subT "tuple" "str" = false ∧ subT "tuple" "int" = false ∧ subT "tuple" "tuple" = true := by decide
theorem same_int {n : Nat} {st : Sto} {i : Int} : f__law_same (n + 1) [.int i, .int i] st = .ok (.bl true) st := by
  obtain ⟨h1, h2, h3, _⟩ := subT_is
  simp [f__law_same, m__law_same, run_is, gIs, isD, isNonD, isBlD, tyName, h1, h2, h3, xeq]
theorem index_bl {st : Sto} {b : Bool} : gIndex (.lst [.non, .bl true, .bl false]) [.bl b] st = .ok (.int (if b then 1 else 2)) st := by
  cases b <;> simp [gIndex, dref, toPy, toPys, SeqAt.shaped, PyData.canLay0, PyData.canLayAll0, PyData.depth, PyData.depthAll, idxD, PyData.eqv]
theorem same_bl {n : Nat} {st : Sto} {b : Bool} : f__law_same (n + 1) [.bl b, .bl b] st = .ok (.bl true) st := by
  have e1 : gIx (.lst [.bl false, .bl true, .bl false]) (.int 1) st = .ok (.bl true) st := xix rfl rfl
  have e2 : gIx (.lst [.bl false, .bl false, .bl true]) (.int 2) st = .ok (.bl true) st := xix rfl rfl
  have k1 := index_bl (st := st) (b := true)
  have k2 := index_bl (st := st) (b := false)
  simp at k1 k2
  cases b <;> simp [f__law_same, m__law_same, run_is, gIs, isD, isNonD, isBlD, szMax, mMtT, tyOk, tyD, k1, k2, e1, e2]
end Kq

namespace Kq
open PySem PySem.Spec Kp
theorem tup_items {n : Nat} {st : Sto} {ds : List D} (hl : ds.length ≤ 1000) (h : ∀ x ∈ ds, f__law_same n [x, x] st = .ok (.bl true) st) :
    compGo (tName 2) mYes (mFn 2 (f__law_same n) [] (mCons (mOp gIx (mVar 0) (mVar 2)) (mCons (mOp gIx (mVar 1) (mVar 2)) mNil))) [2] [some (.tup ds), some (.tup ds), none] ((rngI 0 ds.length).map .int) 0 st = .ok (((rngI 0 ds.length).filter fun _ => true).map fun _ => .bl true) st := by
  have hz : 0 + (rngI 0 ds.length).length ≤ szMax := by rw [rng_len, Nat.zero_add]; exact Nat.le_trans hl (by decide)
  refine compGo_pure (t := tName 2) (tt := mYes) D.int (fun _ => true) (fun _ => .bl true) (rngI 0 ds.length) 0 hz (fun j hj => ?_)
  obtain ⟨j1, j2⟩ := mem_rng.mp hj
  have hlt : j.toNat < ds.length := by omega
  refine ⟨[some (.tup ds), some (.tup ds), some (.int j)], rfl, rfl, fun _ => ?_⟩
  have e := h _ (List.getElem_mem hlt)
  have i0 := xix (st := st) (seqO_tup (ds := ds)) (atI_nat j1 (List.getElem?_eq_getElem hlt))
  simp only [xFn, xCons', xOp, xV0, xVs, xNl, bind_ok, i0, List.append_nil]
  exact e
theorem tup_all {n : Nat} {st : Sto} : gAll [.lst (((rngI 0 n).filter fun _ => true).map fun _ => D.bl true)] st = .ok (.bl true) st := by
  have hb : (lstO st (.lst (((rngI 0 n).filter fun _ => true).map fun _ => D.bl true))).bind blsO = some ((rngI 0 n).map fun _ => true) := by
    have e : (((rngI 0 n).filter fun _ => true).map fun _ => D.bl true) = ((rngI 0 n).map fun _ => true).map D.bl := by rw [List.filter_eq_self.mpr (fun _ _ => rfl), List.map_map]; rfl
    rw [lstO_lst, Option.bind_some, e, blsO_map]
  rw [xall hb]
  have ha : (((rngI 0 n).map fun _ => true).all id) = true := by simp
  rw [ha]
theorem same_tup {n : Nat} {st : Sto} {ds : List D} (hl : ds.length ≤ 1000) (h : ∀ x ∈ ds, f__law_same n [x, x] st = .ok (.bl true) st) : f__law_same (n + 1) [.tup ds, .tup ds] st = .ok (.bl true) st := by
  obtain ⟨_, _, _, h1, h2, h3⟩ := subT_is
  have c := tup_items hl h
  have r : rng1 [.int (ds.length : Nat)] st = .ok ((rngI 0 ds.length).map .int) st := xrng1 (by omega) (by omega)
  have a := tup_all (n := ds.length) (st := st)
  generalize (((rngI 0 ds.length).filter fun _ => true).map fun _ => D.bl true) = L at c a
  generalize (rngI 0 ds.length).map D.int = R at c r
  have g1 : gIs (.tup ds) .non st = .ok (.bl false) st := rfl
  have g2 : gIs (.tup ds) (.bl true) st = .ok (.bl false) st := rfl
  have g3 : gIs (.tup ds) (.bl false) st = .ok (.bl false) st := rfl
  have g4 : gNe (.int ds.length) (.int ds.length) st = .ok (.bl false) st := by rw [xne, decide_eq_false (fun z => z rfl)]
  have t1 : tyName st (.tup ds) = some "tuple" := rfl
  show ended (m__law_same (f__law_same n) [some (.tup ds), some (.tup ds), none] st) = _
  unfold m__law_same
  simp -implicitDefEqProofs only [xSeqS, xIfS, xOrT, xB, xOp, xVs, xV0, xC, bind_ok, g1, g2, g3, g4, xAsB, eb_ok, if_false, Bool.false_eq_true, xNx, at_nx, xIsi, t1, h1, h2, h3, xNotT, Bool.not_true, xCall, xCons', xNl, xlen_tup, xRet, xPure, xComp, xRng, r, c, a, en_rt]
theorem same_refl : ∀ (n : Nat) (d : D) (st : Sto), plainD n d → f__law_same n [d, d] st = .ok (.bl true) st
  | 0, _, _, h => h.elim
  | n + 1, d, st, h => by
    rcases h with ⟨b, rfl⟩ | ⟨i, rfl⟩ | ⟨ds, rfl, hl, hd⟩
    · exact same_bl
    · exact same_int
    · exact same_tup hl fun x hx => same_refl n x st (hd x hx)
end Kq

namespace Kq
open PySem PySem.Spec Kp
theorem compGo_map {t : MT} {me : M D} {vs : List Nat} {ρ : En} {st : Sto} {α : Type} (g f : α → D) (xs : List α) (hl : xs.length ≤ szMax) (h : ∀ x ∈ xs, ∃ ρ1, t (g x) (wipeE ρ vs) st = some (ρ1, st) ∧ me ρ1 st = .ok (f x) st) :
    compGo t mYes me vs ρ (xs.map g) 0 st = .ok (xs.map f) st := by
  have q := compGo_pure (tt := mYes) g (fun _ => true) f xs 0 (by omega) fun x hx => let ⟨ρ1, h1, h2⟩ := h x hx; ⟨ρ1, h1, rfl, fun _ => h2⟩
  rw [q, List.filter_eq_self.mpr (fun _ _ => rfl)]
/-! ## does own show i? -/
def r1 (d own : Int) : List Int := rngI (max 0 (own - d)) (own + 1 - max 0 (own - d)).toNat
def hasB (d r q own i : Int) : Bool := decide (i ∈ r1 d own) || (decide (i ∈ r1 (d + q) own) || decide (i / r ∈ (r1 d own).map (· / r)))
theorem r1_len {d own : Int} (h : 0 ≤ own) (h2 : own < 1000) : (r1 d own).length ≤ szMax := by
  unfold r1
  rw [rng_len]
  have : (own + 1 - max 0 (own - d)).toNat ≤ 2000 := by omega
  exact Nat.le_trans this (by decide)
theorem has_is {st : Sto} {d r q own i : Int} (hd : 0 ≤ d) (hr : 0 < r) (hr2 : r < 1000) (hq : 0 ≤ q) (ho : 0 ≤ own) (ho2 : own < 1000) : f__law_has [.int d, .int r, .int q, .int own, .int i] st = .ok (.bl (hasB d r q own i)) st := by
  have e1 : rng2 [.int (max 0 (own - d)), .int (own + 1)] st = .ok ((r1 d own).map .int) st := xrng2 (by omega) (by omega) (by omega) (by omega)
  have e2 : rng2 [.int (max 0 (own - d - q)), .int (own + 1)] st = .ok ((r1 (d + q) own).map .int) st := by
    have z : own - d - q = own - (d + q) := by omega
    rw [z]
    exact xrng2 (by omega) (by omega) (by omega) (by omega)
  have c1 : compGo (tName 8) mYes (mVar 8) [8] [some (.int d), some (.int r), some (.int q), some (.int own), some (.int i), none, none, none, none] ((r1 d own).map .int) 0 st = .ok ((r1 d own).map .int) st := compGo_map _ _ _ (r1_len ho ho2) fun j _ => ⟨_, rfl, rfl⟩
  have c2 : compGo (tName 8) mYes (mVar 8) [8] [some (.int d), some (.int r), some (.int q), some (.int own), some (.int i), some (.lst ((r1 d own).map .int)), none, none, none] ((r1 (d + q) own).map .int) 0 st = .ok ((r1 (d + q) own).map .int) st := compGo_map _ _ _ (r1_len ho ho2) fun j _ => ⟨_, rfl, rfl⟩
  have c3 : compGo (tName 8) mYes (mOp gDiv (mVar 8) (mVar 1)) [8] [some (.int d), some (.int r), some (.int q), some (.int own), some (.int i), some (.lst ((r1 d own).map .int)), some (.lst ((r1 (d + q) own).map .int)), none, none] ((r1 d own).map .int) 0 st = .ok (((r1 d own).map (· / r)).map .int) st := by
    rw [List.map_map]
    exact compGo_map _ _ _ (r1_len ho ho2) fun j _ => ⟨_, rfl, by
      simp -implicitDefEqProofs only [xOp, xVs, xV0, bind_ok, List.set_cons_succ, List.set_cons_zero, wipeE, xdiv hr (show r < 2 ^ 64 by omega)]
      rfl⟩
  have i1 : gIn (.int i) (.lst ((r1 d own).map .int)) st = _ := xin
  have i2 : gIn (.int i) (.lst ((r1 (d + q) own).map .int)) st = _ := xin
  have i3 : gIn (.int (i / r)) (.lst (((r1 d own).map (· / r)).map .int)) st = _ := xin
  show ended (m__law_has [some (.int d), some (.int r), some (.int q), some (.int own), some (.int i), none, none, none, none] st) = _
  unfold m__law_has hasB
  generalize (r1 d own).map D.int = L1 at *
  generalize (r1 (d + q) own).map D.int = L2 at *
  generalize ((r1 d own).map (· / r)).map D.int = L3 at *
  simp -implicitDefEqProofs only [xSeqS, xAs, xPure, xComp, xRng, xCons', xCall, xOp, xVs, xV0, xC, xNl, bind_ok, xsub, xadd, xmax, e1, e2, c1, c2, c3, eb_ok, xName, st_some, at_nx, List.set_cons_succ, List.set_cons_zero, xSeq, seqD_lst, xRet, xOr, xB, i1, i2, i3, xAsB, xdiv hr (show r < 2 ^ 64 by omega)]
  by_cases z1 : i ∈ r1 d own
  · simp -implicitDefEqProofs [z1]
  · by_cases z2 : i ∈ r1 (d + q) own
    · simp -implicitDefEqProofs [z1, z2]
    · simp -implicitDefEqProofs [z1, z2]
/-! ## the same by numbers -/
theorem div_le {r x y : Int} (hr : 0 < r) : (x / r ≤ y / r ↔ x < r * (y / r) + r) ∧ (x / r ≤ y / r ↔ r * (x / r) ≤ y) := by
  refine ⟨⟨fun h => ?_, fun h => ?_⟩, ⟨fun h => ?_, fun h => ?_⟩⟩
  · have := (Int.ediv_lt_iff_lt_mul hr (a := x) (b := y / r + 1)).mp (by omega)
    rw [Int.add_mul, Int.one_mul, Int.mul_comm] at this
    exact this
  · have := (Int.ediv_lt_iff_lt_mul hr (a := x) (b := y / r + 1)).mpr (by rw [Int.add_mul, Int.one_mul, Int.mul_comm]; exact h)
    omega
  · have := (Int.le_ediv_iff_mul_le hr (a := x / r) (b := y)).mp h
    rw [Int.mul_comm]
    exact this
  · exact (Int.le_ediv_iff_mul_le hr (a := x / r) (b := y)).mpr (by rw [Int.mul_comm]; exact h)
def lo (r i : Int) : Int := r * (i / r)
def hi (d r q i : Int) : Int := max (i + d + q) (r * (i / r) + r - 1 + d)
theorem lo_bd {r i : Int} (hr : 0 < r) : lo r i ≤ i ∧ i < lo r i + r := ⟨(div_le hr).2.mp (Int.le_refl _), (div_le hr).1.mp (Int.le_refl _)⟩
theorem lo_nn {r i : Int} (hr : 0 < r) (hi : 0 ≤ i) : 0 ≤ lo r i := Int.mul_nonneg (by omega) (Int.ediv_nonneg hi (by omega))
theorem cnt_iv {d r q own i : Int} (hd : 0 ≤ d) (hr : 0 < r) (hq : 0 ≤ q) (ho : 0 ≤ own) (h : 0 ≤ i) : cnt d r q own i = decide (lo r i ≤ own ∧ own ≤ hi d r q i) := by
  unfold cnt hi
  obtain ⟨h1, h2⟩ := lo_bd (i := i) hr
  have h0 := lo_nn hr h
  have a1 : r * (max 0 (own - d) / r) ≤ i ↔ max 0 (own - d) < lo r i + r := (div_le hr).2.symm.trans (div_le hr).1
  have a2 : i < r * (own / r) + r ↔ lo r i ≤ own := (div_le hr).1.symm.trans (div_le hr).2
  rw [← Bool.decide_or]
  refine decide_eq_decide.mpr ?_
  rw [a1, a2]
  show _ ↔ lo r i ≤ own ∧ own ≤ max (i + d + q) (lo r i + r - 1 + d)
  omega
theorem has_cnt {d r q own i : Int} (hd : 0 ≤ d) (hr : 0 < r) (hq : 0 ≤ q) (ho : 0 ≤ own) (h : 0 ≤ i) : hasB d r q own i = cnt d r q own i := by
  unfold hasB cnt r1
  rw [← Bool.decide_or, ← Bool.decide_or, ← Bool.decide_or]
  refine decide_eq_decide.mpr ?_
  have a1 : r * (max 0 (own - d) / r) ≤ i ↔ max 0 (own - d) / r ≤ i / r := (div_le hr).2.symm
  have a2 : i < r * (own / r) + r ↔ i / r ≤ own / r := (div_le hr).1.symm
  rw [mem_rng, mem_rng, List.mem_map, a1, a2]
  have a3 : (∃ j, j ∈ rngI (max 0 (own - d)) (own + 1 - max 0 (own - d)).toNat ∧ j / r = i / r) ↔ max 0 (own - d) / r ≤ i / r ∧ i / r ≤ own / r := by
    refine ⟨fun ⟨j, hj, e⟩ => ?_, fun ⟨g1, g2⟩ => ?_⟩
    · have hj' := mem_rng.mp hj
      rw [← e]
      exact ⟨Int.ediv_le_ediv hr hj'.1, Int.ediv_le_ediv hr (by omega)⟩
    · by_cases z : max 0 (own - d) / r = i / r
      · exact ⟨max 0 (own - d), mem_rng.mpr (by omega), z⟩
      · have b1 : max 0 (own - d) < lo r i := by
          have := (Int.ediv_lt_iff_lt_mul hr (a := max 0 (own - d)) (b := i / r)).mp (by omega)
          rw [Int.mul_comm] at this
          exact this
        have b2 : lo r i ≤ own := (div_le hr).2.mp g2
        refine ⟨lo r i, mem_rng.mpr (by omega), ?_⟩
        unfold lo
        exact Int.mul_ediv_cancel_left _ (by omega)
  show _ ∨ _ ∨ (∃ j, j ∈ rngI _ _ ∧ j / r = i / r) ↔ _
  rw [a3]
  omega
theorem has_iv {d r q own i : Int} (hd : 0 ≤ d) (hr : 0 < r) (hq : 0 ≤ q) (ho : 0 ≤ own) (h : 0 ≤ i) : hasB d r q own i = decide (lo r i ≤ own ∧ own ≤ hi d r q i) := by rw [has_cnt hd hr hq ho h, cnt_iv hd hr hq ho h]
end Kq

namespace Kq
open PySem PySem.Spec Kp
theorem rng_add (a : Int) (m n : Nat) : rngI a (m + n) = rngI a m ++ rngI (a + m) n := by
  unfold rngI
  rw [List.range_add, List.map_append, List.map_map]
  congr 1
  refine List.map_congr_left fun x _ => ?_
  show a + ((m + x : Nat) : Int) = a + m + x
  omega
theorem filter_none {p : Int → Bool} {xs : List Int} (h : ∀ x ∈ xs, p x = false) : xs.filter p = [] := List.filter_eq_nil_iff.mpr fun x hx => by rw [h x hx]; decide
theorem filter_all {p : Int → Bool} {xs : List Int} (h : ∀ x ∈ xs, p x = true) : xs.filter p = xs := List.filter_eq_self.mpr h
/-- what an interval keeps of a range -/
theorem filter_iv {p : Int → Bool} {a c f : Int} {n : Nat} (hp : ∀ x ∈ rngI a n, p x = decide (f ≤ x ∧ x ≤ c)) (h1 : a ≤ f) (h2 : f ≤ c + 1) (h3 : c < a + n) : (rngI a n).filter p = rngI f (c + 1 - f).toNat := by
  obtain ⟨k1, e1⟩ : ∃ k : Nat, f = a + k := ⟨(f - a).toNat, by omega⟩
  obtain ⟨k2, e2⟩ : ∃ k : Nat, c + 1 = f + k := ⟨(c + 1 - f).toNat, by omega⟩
  obtain ⟨k3, e3⟩ : ∃ k : Nat, n = k1 + (k2 + k) := ⟨n - k1 - k2, by omega⟩
  rw [List.filter_congr hp, e3, rng_add, rng_add, List.filter_append, List.filter_append, filter_none, filter_all, filter_none, List.nil_append, List.append_nil]
  · rw [← e1]
    congr 1
    omega
  · intro x hx
    have := mem_rng.mp hx
    exact decide_eq_false (by omega)
  · intro x hx
    have := mem_rng.mp hx
    exact decide_eq_true (by omega)
  · intro x hx
    have := mem_rng.mp hx
    exact decide_eq_false (by omega)
theorem rng_get {a : Int} {n i : Nat} (h : i < n) : (rngI a n)[i]? = some (a + i) := by
  unfold rngI
  rw [List.getElem?_map, List.getElem?_range h]
  rfl
theorem rng_first {a : Int} {n : Nat} (h : 0 < n) : L2.atI ((rngI a n).map D.int) 0 = some (.int a) := by
  refine atI_nat (by decide) ?_
  rw [List.getElem?_map]
  show ((rngI a n)[0]?).map D.int = _
  rw [rng_get h]
  simp
theorem rng_last {a : Int} {n : Nat} (h : 0 < n) : L2.atI ((rngI a n).map D.int) (-1) = some (.int (a + n - 1)) := by
  unfold L2.atI L2.ixN
  rw [List.length_map, rng_len, if_neg (by decide), if_pos (by omega), Option.bind_some, List.getElem?_map, show ((-1 : Int) + n).toNat = n - 1 by omega, rng_get (by omega)]
  show some (D.int _) = _
  congr 2
  omega
theorem maxF_is {n m : Int} {ns : List Int} (h1 : m ∈ n :: ns) (h2 : ∀ a ∈ n :: ns, a ≤ m) : maxF n ns = m := by
  obtain ⟨g1, g2⟩ := maxF_spec ns n
  have := h2 _ g1
  have := g2 _ h1
  omega
theorem xmaxL {st : Sto} {xs : List Int} {m : Int} (h1 : m ∈ xs) (h2 : ∀ a ∈ xs, a ≤ m) : gMax [.lst (xs.map .int)] st = .ok (.int m) st := by
  cases xs with
  | nil => cases h1
  | cons n ns =>
    unfold gMax
    split
    · rename_i i j e
      cases e
    · rename_i d e
      have ed := (List.cons.inj e).1
      subst ed
      rw [lstO_lst, Option.bind_some, intsO_map]
      simp only [maxF_is h1 h2]
    · rename_i h3 h4
      exact absurd rfl (h4 _)
theorem hi_bd {d r q i : Int} (hd : 0 ≤ d) (hr : 0 < r) (hq : 0 ≤ q) : i + d + q ≤ hi d r q i ∧ lo r i + r - 1 + d ≤ hi d r q i ∧ hi d r q i ≤ i + d + q + r ∧ hi d r q i + 1 - lo r i ≤ d + r + q ∧ lo r i ≤ hi d r q i := by
  obtain ⟨h1, h2⟩ := lo_bd (i := i) hr
  have e : hi d r q i = max (i + d + q) (lo r i + r - 1 + d) := rfl
  rw [e]
  omega
/-- [own for own in range(n) if has(.., own, i)] -/
def ownsL (d r q i : Int) : List Int := rngI (lo r i) (hi d r q i + 1 - lo r i).toNat
theorem owns_of {a1 a2 a3 a4 a5 : M D} {t : MT} {vs : List Nat} {ρ : En} {st : Sto} {d r q i : Int} {n : Nat} (hd : 0 ≤ d) (hr : 0 < r) (hr2 : r < 1000) (hq : 0 ≤ q) (h0 : 0 ≤ i) (hn : n ≤ 1000) (hn2 : i + d + q + r < n)
    (h : ∀ own : Int, ∃ ρ1, t (.int own) (wipeE ρ vs) st = some (ρ1, st) ∧ a1 ρ1 st = .ok (.int d) st ∧ a2 ρ1 st = .ok (.int r) st ∧ a3 ρ1 st = .ok (.int q) st ∧ a4 ρ1 st = .ok (.int own) st ∧ a5 ρ1 st = .ok (.int i) st) :
    compGo t (mB (mFn 5 f__law_has [] (mCons a1 (mCons a2 (mCons a3 (mCons a4 (mCons a5 mNil))))))) a4 vs ρ ((rngI 0 n).map .int) 0 st = .ok ((ownsL d r q i).map .int) st := by
  have hb := hi_bd (i := i) hd hr hq
  have hl := lo_nn (i := i) hr h0
  have hz : 0 + (rngI 0 n).length ≤ szMax := by rw [rng_len, Nat.zero_add]; exact Nat.le_trans hn (by decide)
  have q1 := compGo_pure (t := t) (tt := mB (mFn 5 f__law_has [] (mCons a1 (mCons a2 (mCons a3 (mCons a4 (mCons a5 mNil))))))) (me := a4) (vs := vs) (ρ := ρ) (st := st) D.int (fun own => hasB d r q own i) D.int (rngI 0 n) 0 hz fun own ho => by
    obtain ⟨ρ1, g0, g1, g2, g3, g4, g5⟩ := h own
    have hm := mem_rng.mp ho
    refine ⟨ρ1, g0, ?_, fun _ => g4⟩
    have e := has_is (st := st) (i := i) hd hr hr2 hq (show 0 ≤ own by omega) (show own < 1000 by omega)
    simp -implicitDefEqProofs only [xB, xFn, xCons', xNl, g1, g2, g3, g4, g5, bind_ok, List.append_nil, List.length_cons, List.length_nil, if_true, e, xAsB]
  rw [q1]
  congr 2
  refine filter_iv (fun own ho => ?_) hl (by omega) (by omega)
  have hm := mem_rng.mp ho
  exact has_iv hd hr hq (by omega) h0
theorem owns_len {d r q i : Int} (hd : 0 ≤ d) (hr : 0 < r) (hq : 0 ≤ q) : ((ownsL d r q i).length : Int) = hi d r q i + 1 - lo r i := by
  have hb := hi_bd (i := i) hd hr hq
  unfold ownsL
  rw [rng_len]
  omega
end Kq

namespace Kq
open PySem PySem.Spec Kp
/-- the largest number of owns is d + r + q -/
theorem most_go {ρ : En} {st : Sto} {t1 t2 : MT} {a1 a2 a3 a4 a5 m4 : M D} {v1 v2 : List Nat} {d r q : Int} (hd : 0 ≤ d) (hd2 : d < 10) (hr : 0 < r) (hr2 : r < 10) (hq : 0 ≤ q) (hq2 : q < 10)
    (h1 : ∀ j : Int, ∃ ρ1, t1 (.int j) (wipeE ρ v1) st = some (ρ1, st) ∧ m4 ρ1 st = .ok (.int (j + d + r + q + 4)) st ∧
      ∀ own : Int, ∃ ρ2, t2 (.int own) (wipeE ρ1 v2) st = some (ρ2, st) ∧ a1 ρ2 st = .ok (.int d) st ∧ a2 ρ2 st = .ok (.int r) st ∧ a3 ρ2 st = .ok (.int q) st ∧ a4 ρ2 st = .ok (.int own) st ∧ a5 ρ2 st = .ok (.int j) st) :
    ∃ L, compGo t1 mYes (mCall gLen (mCons (mPure (mComp (mRng rng1 (mCons m4 mNil)) t2 (mB (mFn 5 f__law_has [] (mCons a1 (mCons a2 (mCons a3 (mCons a4 (mCons a5 mNil))))))) a4 v2)) mNil)) v1 ρ ((rngI 0 r.toNat).map .int) 0 st = .ok L st ∧ gMax [.lst L] st = .ok (.int (d + r + q)) st := by
  refine ⟨((rngI 0 r.toNat).map fun j => hi d r q j + 1 - lo r j).map .int, ?_, xmaxL ?_ ?_⟩
  · rw [List.map_map]
    refine compGo_map (t := t1) D.int _ (rngI 0 r.toNat) (by rw [rng_len]; exact Nat.le_trans (show r.toNat ≤ 10 by omega) (by decide)) fun j hj => ?_
    obtain ⟨ρ1, g1, g2, g3⟩ := h1 j
    have hm := mem_rng.mp hj
    have e := owns_of (t := t2) (vs := v2) (ρ := ρ1) (st := st) (i := j) (n := (j + d + r + q + 4).toNat) hd hr (by omega) hq (by omega) (by omega) (by omega) g3
    refine ⟨ρ1, g1, ?_⟩
    have e2 : rng1 [.int (j + d + r + q + 4)] st = .ok ((rngI 0 (j + d + r + q + 4).toNat).map .int) st := xrng1 (by omega) (by omega)
    simp -implicitDefEqProofs only [xCall, xCons', xPure, xComp, xRng, g2, xNl, bind_ok, e2, e, xlen_lst, List.length_map]
    rw [owns_len hd hr hq]
    rfl
  · refine List.mem_map.mpr ⟨r - 1, mem_rng.mpr (by omega), ?_⟩
    have e : (r - 1) / r = 0 := Int.ediv_eq_zero_of_lt (by omega) (by omega)
    unfold hi lo
    rw [e]
    omega
  · intro a ha
    obtain ⟨j, hj, rfl⟩ := List.mem_map.mp ha
    have := hi_bd (i := j) hd hr hq
    omega
theorem tup3 {ts : List D → En → Sto → Option (En × Sto)} {x y z : D} {ρ : En} {st : Sto} : tTup 3 ts (.tup [x, y, z]) ρ st = ts [x, y, z] ρ st := rfl
theorem tup2 {ts : List D → En → Sto → Option (En × Sto)} {x y : D} {ρ : En} {st : Sto} : tTup 2 ts (.tup [x, y]) ρ st = ts [x, y] ρ st := rfl
theorem counts_ok {st : Sto} {b : Nat} (hb : Box st b) : ∃ st', f__law_counts [.ref b] st = .ok (.bl true) st' ∧ BoxTo b st st' := by
  obtain ⟨d, r, q, s1, e1, hd, hd2, hr, hr2, hq, hq2, x1⟩ := numbers_ok hb
  obtain ⟨i, s2, e2, hi1, hi2, x2⟩ := take_ok (n := 30) (x1.box hb) (by decide) (by decide)
  refine ⟨s2, ?_, x1.trans x2⟩
  have hbd := hi_bd (i := i) (r := r) hd (by omega) hq
  have hl0 := lo_nn (r := r) (by omega) hi1
  obtain ⟨hl1, hl2⟩ := lo_bd (r := r) (i := i) (by omega)
  have en : rng1 [.int (i + d + r + q + 4)] s2 = .ok ((rngI 0 (i + d + r + q + 4).toNat).map .int) s2 := xrng1 (by omega) (by omega)
  have c1 := owns_of (t := tName 3) (a1 := mVar 5) (a2 := mVar 6) (a3 := mVar 7) (a4 := mVar 3) (a5 := mVar 1) (vs := [3]) (ρ := [some (.ref b), some (.int i), none, none, none, some (.int d), some (.int r), some (.int q), none, none, none]) (st := s2) (n := (i + d + r + q + 4).toNat) hd (show 0 < r by omega) (by omega) hq hi1 (by omega) (by omega) fun own => ⟨_, rfl, rfl, rfl, rfl, rfl, rfl⟩
  -- the loop
  have loop := forGo_nx (t := tName 3) (body := (sSeq (sIf (mNotT (mB (mFn 2 (f__law_same 8) [] (mCons (mFn 5 f_counts_at [] (mCons (mVar 5) (mCons (mVar 6) (mCons (mVar 7) (mCons (mVar 3) (mCons (mVar 1) mNil)))))) (mCons (mOp gIn (mVar 3) (mVar 2)) mNil))))) (sRt (mC (.bl false))) sNx)
      (sSeq (sAs (tName 8) (mPure (mComp (mRng rng1 (mCons (mOp gAdd (mVar 3) (mC (.int 1))) mNil)) (tName 9) (mB (mOp gIn (mOp gDiv (mVar 9) (mVar 6)) (mPure (mComp (mRng rng2 (mCons (mCall gMax (mCons (mC (.int 0)) (mCons (mOp gSub (mVar 3) (mVar 5)) mNil))) (mCons (mOp gAdd (mVar 3) (mC (.int 1))) mNil))) (tName 10) mYes (mOp gDiv (mVar 10) (mVar 6)) [10])))) (mVar 9) [9])))
      (sIf (mNotT (mB (mFn 2 (f__law_same 8) [] (mCons (mFn 3 f_pens_from [] (mCons (mVar 5) (mCons (mVar 6) (mCons (mVar 3) mNil)))) (mCons (mOp gIx (mVar 8) (mC (.int 0))) mNil))))) (sRt (mC (.bl false))) sNx)))) D.int
    (fun _ ρ st => st = s2 ∧ ∃ o3 o8, ρ = [some (.ref b), some (.int i), some (.lst ((ownsL d r q i).map .int)), o3, none, some (.int d), some (.int r), some (.int q), o8, none, none]) (rngI 0 (i + d + r + q + 4).toNat) 0
    [some (.ref b), some (.int i), some (.lst ((ownsL d r q i).map .int)), none, none, some (.int d), some (.int r), some (.int q), none, none, none] s2 ⟨rfl, none, none, rfl⟩ (fun k own ρ st hk hI => by
      obtain ⟨rfl, o3, o8, rfl⟩ := hI
      have hm := mem_rng.mp (List.mem_of_getElem? hk)
      have ho : 0 ≤ own := by omega
      have f1 := counts_is (st := st) (d := d) (r := r) (q := q) (own := own) (i := i) (by omega) (by omega)
      have f2 : gIn (.int own) (.lst ((ownsL d r q i).map .int)) st = .ok (.bl (cnt d r q own i)) st := by
        rw [xin, cnt_iv hd (by omega) hq ho hi1]
        congr 2
        refine decide_eq_decide.mpr ?_
        unfold ownsL
        rw [mem_rng]
        omega
      have f3 : f__law_same 8 [.bl (cnt d r q own i), .bl (cnt d r q own i)] st = .ok (.bl true) st := same_bl
      -- pens
      have p1 : rng1 [.int (own + 1)] st = .ok ((rngI 0 (own + 1).toNat).map .int) st := xrng1 (by omega) (by omega)
      have p2 : rng2 [.int (max 0 (own - d)), .int (own + 1)] st = .ok ((r1 d own).map .int) st := xrng2 (by omega) (by omega) (by omega) (by omega)
      have hin : ∀ j : Int, compGo (tName 10) mYes (mOp gDiv (mVar 10) (mVar 6)) [10] [some (.ref b), some (.int i), some (.lst ((ownsL d r q i).map .int)), some (.int own), none, some (.int d), some (.int r), some (.int q), o8, some (.int j), none] ((r1 d own).map .int) 0 st = .ok (((r1 d own).map (· / r)).map .int) st := fun j => by
        rw [List.map_map]
        exact compGo_map _ _ _ (r1_len ho (by omega)) fun k _ => ⟨[some (.ref b), some (.int i), some (.lst ((ownsL d r q i).map .int)), some (.int own), none, some (.int d), some (.int r), some (.int q), o8, some (.int j), some (.int k)], rfl, by
          simp -implicitDefEqProofs only [xOp, xVs, xV0, bind_ok, xdiv (show 0 < r by omega) (show r < 2 ^ 64 by omega)]
          rfl⟩
      have hpens : compGo (tName 9) (mB (mOp gIn (mOp gDiv (mVar 9) (mVar 6)) (mPure (mComp (mRng rng2 (mCons (mCall gMax (mCons (mC (.int 0)) (mCons (mOp gSub (mVar 3) (mVar 5)) mNil))) (mCons (mOp gAdd (mVar 3) (mC (.int 1))) mNil))) (tName 10) mYes (mOp gDiv (mVar 10) (mVar 6)) [10])))) (mVar 9) [9]
          [some (.ref b), some (.int i), some (.lst ((ownsL d r q i).map .int)), some (.int own), none, some (.int d), some (.int r), some (.int q), o8, none, none] ((rngI 0 (own + 1).toNat).map .int) 0 st = .ok ((rngI (r * (max 0 (own - d) / r)) (own + 1 - r * (max 0 (own - d) / r)).toNat).map .int) st := by
        have hz : 0 + (rngI 0 (own + 1).toNat).length ≤ szMax := by rw [rng_len, Nat.zero_add]; exact Nat.le_trans (show (own + 1).toNat ≤ 1000 by omega) (by decide)
        have q1 := compGo_pure (t := tName 9) (tt := mB (mOp gIn (mOp gDiv (mVar 9) (mVar 6)) (mPure (mComp (mRng rng2 (mCons (mCall gMax (mCons (mC (.int 0)) (mCons (mOp gSub (mVar 3) (mVar 5)) mNil))) (mCons (mOp gAdd (mVar 3) (mC (.int 1))) mNil))) (tName 10) mYes (mOp gDiv (mVar 10) (mVar 6)) [10])))) (me := mVar 9) (vs := [9])
          (ρ := [some (.ref b), some (.int i), some (.lst ((ownsL d r q i).map .int)), some (.int own), none, some (.int d), some (.int r), some (.int q), o8, none, none]) (st := st) D.int (fun j => decide (j / r ∈ (r1 d own).map (· / r))) D.int (rngI 0 (own + 1).toNat) 0 hz fun j hj => by
            refine ⟨[some (.ref b), some (.int i), some (.lst ((ownsL d r q i).map .int)), some (.int own), none, some (.int d), some (.int r), some (.int q), o8, some (.int j), none], rfl, ?_, fun _ => rfl⟩
            have hx : gIn (.int (j / r)) (.lst (((r1 d own).map (· / r)).map .int)) st = _ := xin
            simp -implicitDefEqProofs only [xB, xOp, xVs, xV0, bind_ok, xdiv (show 0 < r by omega) (show r < 2 ^ 64 by omega), xPure, xComp, xRng, xCons', xCall, xC, xNl, xsub, xadd, xmax, p2, hin j, hx, xAsB]
        rw [q1]
        congr 2
        have h0 := Int.mul_nonneg (show 0 ≤ r by omega) (Int.ediv_nonneg (show 0 ≤ max 0 (own - d) by omega) (show 0 ≤ r by omega))
        have h1 : r * (max 0 (own - d) / r) ≤ max 0 (own - d) := (div_le (show 0 < r by omega)).2.mp (Int.le_refl _)
        refine filter_iv (fun j hj => ?_) h0 (by omega) (by omega)
        have hj' := mem_rng.mp hj
        refine decide_eq_decide.mpr ?_
        rw [List.mem_map]
        refine ⟨fun ⟨k, hk, e⟩ => ⟨?_, by omega⟩, fun h => ?_⟩
        · have hk' := mem_rng.mp hk
          have g : max 0 (own - d) / r ≤ j / r := by rw [← e]; exact Int.ediv_le_ediv (by omega) hk'.1
          exact (div_le (show 0 < r by omega)).2.mp g
        · have g : max 0 (own - d) / r ≤ j / r := (div_le (show 0 < r by omega)).2.mpr h.1
          by_cases z : max 0 (own - d) ≤ j
          · exact ⟨j, mem_rng.mpr (by omega), rfl⟩
          · exact ⟨max 0 (own - d), mem_rng.mpr (by omega), Int.le_antisymm g (Int.ediv_le_ediv (by omega) (by omega))⟩
      have h1 : r * (max 0 (own - d) / r) ≤ max 0 (own - d) := (div_le (show 0 < r by omega)).2.mp (Int.le_refl _)
      have f4 : gIx (.lst ((rngI (r * (max 0 (own - d) / r)) (own + 1 - r * (max 0 (own - d) / r)).toNat).map .int)) (.int 0) st = .ok (.int (r * (max 0 (own - d) / r))) st := xix seqO_lst (rng_first (by omega))
      have f5 := pens_is (st := st) (d := d) (r := r) (own := own) (by omega) (by omega)
      have f6 : f__law_same 8 [.int (r * (max 0 (own - d) / r)), .int (r * (max 0 (own - d) / r))] st = .ok (.bl true) st := same_int
      refine ⟨_, _, _, _, rfl, ?_, rfl, some (.int own), some (.lst ((rngI (r * (max 0 (own - d) / r)) (own + 1 - r * (max 0 (own - d) / r)).toNat).map .int)), rfl⟩
      simp -implicitDefEqProofs only [xSeqS, xIfS, xNotT, xB, xFn, xCons', xOp, xVs, xV0, xC, xNl, bind_ok, List.set_cons_succ, List.set_cons_zero, List.append_nil, List.length_cons, List.length_nil, if_true, f1, f2, f3, xAsB, Bool.not_true, Bool.false_eq_true, if_false, eb_ok, xNx, at_nx, xAs, xPure, xComp, xRng, xadd, p1, hpens, xName, st_some, f4, f5, f6])
  obtain ⟨ρ', st', l1, rfl, o3, o8, rfl⟩ := loop
  have hpos : 0 < (hi d r q i + 1 - lo r i).toNat := by omega
  have g1 : gIx (.lst ((ownsL d r q i).map .int)) (.int 0) st' = .ok (.int (lo r i)) st' := xix seqO_lst (rng_first hpos)
  have g2 : gIx (.lst ((ownsL d r q i).map .int)) (.int (-1)) st' = .ok (.int (hi d r q i)) st' := by
    have e := rng_last (a := lo r i) hpos
    rw [show lo r i + ((hi d r q i + 1 - lo r i).toNat : Nat) - 1 = hi d r q i by omega] at e
    exact xix seqO_lst e
  have g3 : lrng (lo r i) (hi d r q i + 1) st' = .ok ((ownsL d r q i).map .int) st' := by
    unfold lrng
    rw [if_pos ⟨by omega, by omega, by omega, by omega, by omega⟩, rngD_is]
    rfl
  have g4 : gNe (.lst ((ownsL d r q i).map .int)) (.lst ((ownsL d r q i).map .int)) st' = .ok (.bl false) st' := xne_ints
  have g5 := first_is (st := st') (r := r) (i := i) (by omega) (by omega)
  have g6 := last_is (st := st') (d := d) (r := r) (q := q) (i := i) (by omega) (by omega)
  have g7 : f__law_same 8 [.tup [.int (lo r i), .int (hi d r q i)], .tup [.int (lo r i), .int (hi d r q i)]] st' = .ok (.bl true) st' := same_refl 8 _ _ (.inr (.inr ⟨_, rfl, by simp, fun x hx => by
    simp only [List.mem_cons, List.not_mem_nil, or_false] at hx
    rcases hx with rfl | rfl <;> exact .inr (.inl ⟨_, rfl⟩)⟩))
  obtain ⟨L, m1, m2⟩ := most_go (ρ := [some (.ref b), some (.int i), some (.lst ((ownsL d r q i).map .int)), o3, none, some (.int d), some (.int r), some (.int q), o8, none, none]) (st := st') (t1 := tName 9) (t2 := tName 3) (a1 := mVar 5) (a2 := mVar 6) (a3 := mVar 7) (a4 := mVar 3) (a5 := mVar 9) (m4 := mOp gAdd (mOp gAdd (mOp gAdd (mOp gAdd (mVar 9) (mVar 5)) (mVar 6)) (mVar 7)) (mC (.int 4))) (v1 := [9]) (v2 := [3]) hd hd2 (show 0 < r by omega) (by omega) hq hq2
    (fun j => ⟨_, rfl, rfl, fun own => ⟨_, rfl, rfl, rfl, rfl, rfl, rfl⟩⟩)
  have m3 : rng1 [.int r] st' = .ok ((rngI 0 r.toNat).map .int) st' := xrng1 (by omega) (by omega)
  have m4 : f__law_same 8 [.int (d + r + q), .int (d + r + q)] st' = .ok (.bl true) st' := same_int
  have m5 : ((ownsL d r q i).length : Int) ≤ d + r + q := by rw [owns_len hd (by omega) hq]; omega
  have k1 := kept_is (st := st') (d := d) (r := r) (q := q)
  have y1 : ∀ (m n : M D) ρ st, mLr2 m n ρ st = (m ρ st).bind fun d st => (n ρ st).bind fun e st => (asI d st).bind fun i st => (asI e st).bind fun j st => lrng i j st := fun _ _ _ _ => rfl
  have y2 : ∀ (i : Int) st, asI (.int i) st = .ok i st := fun _ _ => rfl
  show ended (m__law_counts [some (.ref b), none, none, none, none, none, none, none, none, none, none] st) = _
  unfold m__law_counts
  unfold lo hi at *
  simp -implicitDefEqProofs only [xSeqS, xAs, xFn, xCons', xVs, xV0, xC, xNl, bind_ok, List.append_nil, List.length_cons, List.length_nil, if_true, e1, eb_ok, tup3, xTC, xTN, Option.bind_some, st_some, at_nx, List.set_cons_succ, List.set_cons_zero, e2, xName, xPure, xComp, xRng, xOp, xadd, en, c1, xFor, l1, xIfS, xOrT, xB, y1, y2, xNeg, g1, g2, g3, g4, xAsB, Bool.false_eq_true, if_false, xNotT, xTp, g5, g6, szMax, Nat.reduceLeDiff, Nat.reduceAdd, Nat.zero_add, g7, Bool.not_true, xNx, xCall, m3, m1, m2, xRet, xAnd, k1, m4, xlen_lst, List.length_map, xle, decide_eq_true m5, en_rt]
end Kq

namespace Kq
open PySem PySem.Spec Kp
/-! ## the worst looks -/
def wl (l f : Int) (n : Nat) : List D := (rngI 0 n).map fun x => .tup [.int x, .int (f + x / l)]
theorem worst_er {st : Sto} {k l d r q i : Int} (hr : 0 < r) (h2 : r < 1000) (h : 200 ≤ hi d r q i) : f_worst_looks [.int k, .int l, .int d, .int r, .int q, .int i] st = .er "Refused" (.str "far") st := by
  have g5 := first_is (st := st) (r := r) (i := i) (by omega) (by omega)
  have g6 := last_is (st := st) (d := d) (r := r) (q := q) (i := i) (by omega) (by omega)
  have h' : 200 ≤ max (i + d + q) (r * (i / r) + r - 1 + d) := h
  show ended (m_worst_looks [some (.int k), some (.int l), some (.int d), some (.int r), some (.int q), some (.int i), none, none, none] st) = _
  have y : ∀ (c : Str) (m : M D) ρ st, sRaise c m ρ st = eb (m ρ st) ρ fun d st => .er c d ρ st := fun _ _ _ _ => rfl
  unfold m_worst_looks
  simp -implicitDefEqProofs only [xSeqS, xAs, xTp, xFn, xCons', xVs, xV0, xC, xNl, bind_ok, List.append_nil, List.length_cons, List.length_nil, if_true, g5, g6, szMax, Nat.reduceLeDiff, Nat.reduceAdd, Nat.zero_add, eb_ok, tup2, xTC, xTN, xName, Option.bind_some, st_some, at_nx, List.set_cons_succ, List.set_cons_zero, xIfS, xB, xOp, xge, decide_eq_true h', xAsB, y, at_er, en_er]
theorem worst_is {st : Sto} {k l d r q i : Int} (hd : 0 ≤ d) (hr : 0 < r) (h2 : r < 1000) (hq : 0 ≤ q) (h0 : 0 ≤ i) (h : hi d r q i < 200) (hk : 0 ≤ k) (hk2 : k < 1000) (hl : 0 ≤ l) (hl2 : l < 1000) :
    f_worst_looks [.int k, .int l, .int d, .int r, .int q, .int i] st = .ok (.tup (if 0 < l then wl l (lo r i) (min k (l * (hi d r q i - lo r i + 1))).toNat else [])) st := by
  have g5 := first_is (st := st) (r := r) (i := i) (by omega) (by omega)
  have g6 := last_is (st := st) (d := d) (r := r) (q := q) (i := i) (by omega) (by omega)
  have hb := hi_bd (i := i) hd hr hq
  have h0' := lo_nn hr h0
  have h' : ¬ 200 ≤ max (i + d + q) (r * (i / r) + r - 1 + d) := by
    have : hi d r q i = max (i + d + q) (r * (i / r) + r - 1 + d) := rfl
    omega
  have y : ∀ (c : Str) (m : M D) ρ st, sRaise c m ρ st = eb (m ρ st) ρ fun d st => .er c d ρ st := fun _ _ _ _ => rfl
  have hm : 0 ≤ l * (hi d r q i - lo r i + 1) := Int.mul_nonneg hl (by omega)
  have r1' : rng1 [.int (min k (l * (hi d r q i - lo r i + 1)))] st = .ok ((rngI 0 (min k (l * (hi d r q i - lo r i + 1))).toNat).map .int) st := xrng1 (by omega) (by omega)
  show ended (m_worst_looks [some (.int k), some (.int l), some (.int d), some (.int r), some (.int q), some (.int i), none, none, none] st) = _
  have g7 : f_first_own [.int r, .int i] st = .ok (.int (lo r i)) st := g5
  have g8 : f_last_own [.int d, .int r, .int q, .int i] st = .ok (.int (hi d r q i)) st := g6
  have h'' : ¬ 200 ≤ hi d r q i := by omega
  unfold m_worst_looks
  by_cases z : 0 < l
  · have c := compGo_map (t := tName 8) (me := mTup (mCons (mVar 8) (mCons (mOp gAdd (mVar 6) (mOp gDiv (mVar 8) (mVar 1))) mNil))) (vs := [8]) (ρ := [some (.int k), some (.int l), some (.int d), some (.int r), some (.int q), some (.int i), some (.int (lo r i)), some (.int (hi d r q i)), none]) (st := st) D.int (fun x => .tup [.int x, .int (lo r i + x / l)]) (rngI 0 (min k (l * (hi d r q i - lo r i + 1))).toNat) (by rw [rng_len]; exact Nat.le_trans (show _ ≤ 1000 by omega) (by decide)) fun x hx => ⟨[some (.int k), some (.int l), some (.int d), some (.int r), some (.int q), some (.int i), some (.int (lo r i)), some (.int (hi d r q i)), some (.int x)], rfl, by
      simp -implicitDefEqProofs only [xTp, xCons', xVs, xV0, xOp, xNl, bind_ok, xdiv z (show l < 2 ^ 64 by omega), xadd, List.length_cons, List.length_nil, szMax, Nat.reduceLeDiff, Nat.reduceAdd, Nat.zero_add, if_true]⟩
    have t1 : ∀ L : List D, gTuple [.lst L] st = .ok (.tup L) st := fun L => xtuple rfl
    rw [if_pos z]
    simp -implicitDefEqProofs only [xSeqS, xAs, xTp, xFn, xCons', xVs, xV0, xC, xNl, bind_ok, List.append_nil, List.length_cons, List.length_nil, if_true, g7, g8, szMax, Nat.reduceLeDiff, Nat.reduceAdd, Nat.zero_add, eb_ok, tup2, xTC, xTN, xName, Option.bind_some, st_some, at_nx, List.set_cons_succ, List.set_cons_zero, xIfS, xB, xOp, xge, decide_eq_false h'', xAsB, Bool.false_eq_true, if_false, xNx, xRet, xIf, xgt, decide_eq_true z, xCall, xPure, xComp, xRng, xmin, xsub, xadd, xmulL (show l.natAbs < 2 ^ 64 by omega), r1', c, t1, en_rt, wl]
  · rw [if_neg z]
    simp -implicitDefEqProofs only [xSeqS, xAs, xTp, xFn, xCons', xVs, xV0, xC, xNl, bind_ok, List.append_nil, List.length_cons, List.length_nil, if_true, g7, g8, szMax, Nat.reduceLeDiff, Nat.reduceAdd, Nat.zero_add, eb_ok, tup2, xTC, xTN, xName, Option.bind_some, st_some, at_nx, List.set_cons_succ, List.set_cons_zero, xIfS, xB, xOp, xge, decide_eq_false h'', xAsB, Bool.false_eq_true, if_false, xNx, xRet, xIf, xgt, decide_eq_false z, en_rt, Nat.zero_le]
theorem try_er {cm : Str → Option Bool} {i : Nat} {body : MS} {msu : Str → D → MS} {ρ ρ1 : En} {st st1 : Sto} {c : Str} {d : D} (h : body ρ st = .er c d ρ1 st1) (hc : cm c = some true) : sTryAs cm i body msu ρ st = unset i (msu c d ρ1 st1) := by
  unfold sTryAs
  rw [h]
  dsimp only
  rw [hc]
theorem shaped_far : SeqAt.shaped (.str ("far" : Str)) = true := by decide +kernel
theorem far_ok {st : Sto} {b : Nat} (hb : Box st b) : ∃ st', f__law_far [.ref b] st = .ok (.bl true) st' ∧ BoxTo b st st' := by
  obtain ⟨v, s1, e1, h7, x1⟩ := pick_ok (ds := [.int 1, .int 100, .int 199]) hb (by simp) (by simp)
  have hv : ∃ d : Int, v = .int d ∧ 1 ≤ d ∧ d < 200 := by
    simp only [List.mem_cons, List.not_mem_nil, or_false] at h7
    rcases h7 with h | h | h <;> exact ⟨_, h, by decide, by decide⟩
  obtain ⟨d, rfl, hd, hd2⟩ := hv
  obtain ⟨t, s2, e2, ht1, ht2, x2⟩ := take_ok (n := 200 - d) (x1.box hb) (by omega) (by omega)
  refine ⟨s2, ?_, x1.trans x2⟩
  have hh : ∀ i : Int, hi d 1 0 i = i + d := fun i => by unfold hi; rw [Int.ediv_one]; omega
  have w1 := worst_is (st := s2) (k := 3) (l := 3) (d := d) (r := 1) (q := 0) (i := 200 - d - 1 - t) (by omega) (by decide) (by decide) (by decide) (by omega) (by rw [hh]; omega) (by decide) (by decide) (by decide) (by decide)
  have w2 := worst_er (st := s2) (k := 3) (l := 3) (d := d) (r := 1) (q := 0) (i := 200 - d) (by decide) (by decide) (by rw [hh]; omega)
  have hl1 : lo 1 (200 - d - 1 - t) = 200 - d - 1 - t := by unfold lo; rw [Int.ediv_one]; omega
  rw [if_pos (by decide), hh, hl1] at w1
  have hw : ((wl 3 (200 - d - 1 - t) (min 3 (3 * (200 - d - 1 - t + d - (200 - d - 1 - t) + 1))).toNat).length : Int) = 3 := by
    unfold wl
    rw [List.length_map, rng_len]
    omega
  have s3 : f__law_same 8 [.int 3, .int 3] s2 = .ok (.bl true) s2 := same_int
  have hbody : sEx (mFn 6 f_worst_looks [] (mCons (mC (.int 3)) (mCons (mC (.int 3)) (mCons (mVar 3) (mCons (mVar 4) (mCons (mC (.int 0)) (mCons (mOp gSub (mC (.int 200)) (mVar 3)) mNil))))))) [some (.ref b), some (.int (200 - d - 1 - t)), none, some (.int d), some (.int 1)] s2 = .er "Refused" (.str "far") [some (.ref b), some (.int (200 - d - 1 - t)), none, some (.int d), some (.int 1)] s2 := by
    simp -implicitDefEqProofs only [xExS, xFn, xCons', xVs, xV0, xC, xNl, bind_ok, xOp, xsub, List.append_nil, List.length_cons, List.length_nil, Nat.reduceAdd, Nat.zero_add, if_true, w2, eb_er]
  have hc : catOf "Refused" "Refused" = some true := by decide
  have y2 : unset 2 (xRt (xSame (xCons (mAt ["Refused"]) (xCons (fun _ _ => mC (.str "far")) xNil))) 2 "Refused" (.str "far") [some (.ref b), some (.int (200 - d - 1 - t)), none, some (.int d), some (.int 1)] s2) = .rt (.bl true) s2 := by
    have e : xSame (xCons (mAt ["Refused"]) (xCons (fun _ _ => mC (.str "far")) xNil)) "Refused" (.str "far") [some (.ref b), some (.int (200 - d - 1 - t)), none, some (.int d), some (.int 1)] s2 = .ok (.bl true) s2 := by
      show (if SeqAt.shaped (.str ("far" : Str)) = true ∧ SeqAt.shaped (.str ("far" : Str)) = true then Res.ok (D.bl (("far" : Str) == ("far" : Str))) s2 else .no) = _
      rw [if_pos ⟨shaped_far, shaped_far⟩]
      simp
    show unset 2 (match xSame (xCons (mAt ["Refused"]) (xCons (fun _ _ => mC (.str "far")) xNil)) "Refused" (.str "far") [some (.ref b), some (.int (200 - d - 1 - t)), none, some (.int d), some (.int 1)] s2 with | .ok d st => .rt d st | _ => .no) = _
    rw [e]
    rfl
  have y3 := try_er (i := 2) (cm := catOf "Refused") (msu := xRt (xSame (xCons (mAt ["Refused"]) (xCons (fun _ _ => mC (.str "far")) xNil))) 2) hbody hc
  rw [y2] at y3
  show ended (m__law_far [some (.ref b), none, none, none, none] st) = _
  unfold m__law_far
  simp -implicitDefEqProofs only [xSeqS, xPar, xFn, xCons', xVs, xV0, xC, xNl, bind_ok, List.append_nil, List.length_cons, List.length_nil, if_true, xPure, xLst, szMax, Nat.reduceLeDiff, Nat.reduceAdd, Nat.zero_add, e1, eb_ok, List.zip_cons_cons, List.zip_nil_right, List.foldl_cons, List.foldl_nil, List.set_cons_succ, List.set_cons_zero, at_nx, xAs, xOp, xsub, e2, xName, st_some, xIfS, xNotT, xB, xCall, w1, xlen_tup, hw, s3, xAsB, Bool.not_true, Bool.false_eq_true, if_false, xNx, y3, at_rt, en_rt]
end Kq

namespace Kq
open PySem PySem.Spec Kp
theorem xpow {st : Sto} {i j : Int} (h : 0 ≤ j ∧ j ≤ 1000000 ∧ i.natAbs < 2 ^ 64) : gPow (.int i) (.int j) st = .ok (.int (i ^ j.toNat)) st := by
  show (if 0 ≤ j ∧ j ≤ 1000000 ∧ i.natAbs < 2 ^ 64 then _ else _) = _
  rw [if_pos h]
theorem big_ok : ∃ C : Int, 0 < C ∧ ∀ ρ st, mOp gMul (mOp gMul (mOp gPow (mC (.int 10)) (mC (.int 60))) (mOp gPow (mC (.int 10)) (mC (.int 60)))) (mOp gPow (mC (.int 10)) (mC (.int 60))) ρ st = .ok (.int C) st := by
  refine ⟨(10 : Int) ^ (60 : Int).toNat * (10 : Int) ^ (60 : Int).toNat * (10 : Int) ^ (60 : Int).toNat, by decide +kernel, fun ρ st => ?_⟩
  simp -implicitDefEqProofs only [xOp, xC, bind_ok, xpow (i := 10) (j := 60) (by decide), xmul (show mulOk ((10 : Int) ^ (60 : Int).toNat) ((10 : Int) ^ (60 : Int).toNat) by decide +kernel), xmul (show mulOk ((10 : Int) ^ (60 : Int).toNat * (10 : Int) ^ (60 : Int).toNat) ((10 : Int) ^ (60 : Int).toNat) by decide +kernel)]
theorem box_tail {o : Option D} {st : Sto} {k c : Int} (hk : 0 ≤ k) (hk2 : k < 10) : ∃ c' x, sRt (mBox (mLst (mCons (mOp gIx (mPure (mLst (mCons (mC (.int 0)) (mCons (mVar 2) mNil)))) (mCall gInt (mCons (mOp gGe (mVar 2) (mOp gPow (mC (.int 10)) (mC (.int 18)))) mNil))) (mCons (mOp gAdd (mOp gMod (mCall gInt (mCons (mOp gAdd (mOp gMul (mOp gMod (mCall gInt (mCons (mVar 2) mNil)) (mC (.int 2147483629))) (mC (.int 30013))) (mOp gMul (mC (.int 47057)) (mVar 1))) mNil)) (mC (.int 2147483629))) (mC (.int 1))) (mCons (mC (.int 0)) mNil))))) [o, some (.int k), some (.int c)] st =
    .rt (.ref st.length) (st ++ [.lst [.int c', .int x, .int 0]]) := by
  have e0 : ∀ b : Bool, gIx (.lst [.int 0, .int c]) (.int (if b = true then 1 else 0)) st = .ok (.int (if b = true then c else 0)) st := fun b => by cases b <;> exact xix rfl rfl
  refine ⟨if decide ((10 : Int) ^ (18 : Int).toNat ≤ c) = true then c else 0, (c % 2147483629 * 30013 + 47057 * k) % 2147483629 + 1, ?_⟩
  · simp -implicitDefEqProofs only [xRet, xBox, xLst, xCons', xOp, xPure, xC, xVs, xV0, xNl, bind_ok, List.length_cons, List.length_nil, szMax, Nat.reduceLeDiff, Nat.reduceAdd, Nat.zero_add, if_true, xCall, xge, xpow (i := 10) (j := 18) (by decide), xintb, e0, xint, xmod (show (0 : Int) < 2147483629 by decide), xmulR (show (30013 : Int).natAbs < 2 ^ 64 by decide), xmulL (show (47057 : Int).natAbs < 2 ^ 64 by decide), xadd, eb_ok]
theorem box_ok {st : Sto} {nums : List Int} {k : Int} (hk : 0 ≤ k) (hk2 : k < 10) (hl : nums.length ≤ 63) : ∃ c x, f__law_box [.fls (nums.map .int), .int k] st = .ok (.ref st.length) (st ++ [.lst [.int c, .int x, .int 0]]) := by
  obtain ⟨C, hC, big⟩ := big_ok
  have n1 : ∀ (j : Int), 0 ≤ j → j < nums.length → ∃ z : Int, gIx (.fls (nums.map .int)) (.int j) st = .ok (.int z) st := fun j h0 h1 => by
    have hlt : j.toNat < nums.length := by omega
    exact ⟨nums[j.toNat], xix seqO_fls (atI_nat h0 (by rw [List.getElem?_map, List.getElem?_eq_getElem hlt]; rfl))⟩
  by_cases h1 : k < nums.length
  · obtain ⟨z, hz⟩ := n1 k hk h1
    obtain ⟨c', x, t⟩ := box_tail (o := some (.fls (nums.map .int))) (st := st) (k := k) (c := (if z < 0 then -z else z) % C) hk hk2
    refine ⟨c', x, ?_⟩
    show ended (m__law_box [some (.fls (nums.map .int)), some (.int k), none] st) = _
    unfold m__law_box
    simp -implicitDefEqProofs only [↓big, xSeqS, xAs, xOp, xC, xVs, xV0, bind_ok, xmulL (show (6007 : Int).natAbs < 2 ^ 64 by decide), xadd, eb_ok, xName, st_some, at_nx, List.set_cons_succ, List.set_cons_zero, xIfS, xB, xCall, xCons', xNl, xlen_fls, List.length_map, xlt, decide_eq_true h1, xAsB, if_true, hz, xabs, xint, xmod hC]
    rw [t]
    rfl
  · by_cases h2 : 0 < nums.length
    · have hq : 0 < (nums.length : Int) := by omega
      obtain ⟨z, hz⟩ := n1 (k % nums.length) (Int.emod_nonneg _ (by omega)) (Int.emod_lt_of_pos _ hq)
      obtain ⟨c', x, t⟩ := box_tail (o := some (.fls (nums.map .int))) (st := st) (k := k) (c := 6007 * k + 2061 + (if z < 0 then -z else z) % 2147483629 * 60017) hk hk2
      refine ⟨c', x, ?_⟩
      show ended (m__law_box [some (.fls (nums.map .int)), some (.int k), none] st) = _
      unfold m__law_box
      simp -implicitDefEqProofs only [xSeqS, xAs, xOp, xC, xVs, xV0, bind_ok, xmulL (show (6007 : Int).natAbs < 2 ^ 64 by decide), xadd, eb_ok, xName, st_some, at_nx, List.set_cons_succ, List.set_cons_zero, xIfS, xB, xCall, xCons', xNl, xlen_fls, List.length_map, xlt, xgt, decide_eq_false h1, decide_eq_true hq, xAsB, Bool.false_eq_true, if_false, if_true, hz, xabs, xint, xmod hq, xmod (show (0 : Int) < 2147483629 by decide), xmulR (show (60017 : Int).natAbs < 2 ^ 64 by decide)]
      rw [t]
      rfl
    · have hq : ¬ 0 < (nums.length : Int) := by omega
      obtain ⟨c', x, t⟩ := box_tail (o := some (.fls (nums.map .int))) (st := st) (k := k) (c := 6007 * k + 2061) hk hk2
      refine ⟨c', x, ?_⟩
      show ended (m__law_box [some (.fls (nums.map .int)), some (.int k), none] st) = _
      unfold m__law_box
      simp -implicitDefEqProofs only [xSeqS, xAs, xOp, xC, xVs, xV0, bind_ok, xmulL (show (6007 : Int).natAbs < 2 ^ 64 by decide), xadd, eb_ok, xName, st_some, at_nx, List.set_cons_succ, List.set_cons_zero, xIfS, xB, xCall, xCons', xNl, xlen_fls, List.length_map, xlt, xgt, decide_eq_false h1, decide_eq_false hq, xAsB, Bool.false_eq_true, if_false, xNx]
      rw [t]
      rfl
end Kq

namespace Kq
open PySem PySem.Spec Kp
abbrev Key := L2.Key
abbrev Lk := Int × Int
def pr (p : Lk) : D := .tup [.int p.1, .int p.2]
def at_ (P : List Lk) (o : Int) : List Lk := P.filter fun p => decide (p.2 = o)
def xs_ (P : List Lk) (o : Int) : List D := (at_ P o).map fun p => .int p.1
theorem dval_app {k k' : Key} {d : D} : ∀ {kvs : List (Key × D)}, dval (kvs ++ [(k, d)]) k' = match dval kvs k' with | some e => some e | none => if k = k' then some d else none
  | [] => by simp [dval]
  | (k1, d1) :: kvs => by
    have ih := dval_app (k := k) (k' := k') (d := d) (kvs := kvs)
    by_cases z : k1 = k'
    · simp [dval, z]
    · simp [dval, z, ih]
theorem dval_has {k : Key} : ∀ {kvs : List (Key × D)}, dhas kvs k = (dval kvs k).isSome
  | [] => rfl
  | (k1, d1) :: kvs => by
    have ih := dval_has (k := k) (kvs := kvs)
    unfold dhas at ih ⊢
    by_cases z : k1 = k
    · simp [dval, z]
    · simp [dval, z, ih]
/-- the state behind the looks P: the dict at n0, its lists -/
structure SI (n0 : Nat) (st0 : Sto) (P : List Lk) (kvs : List (Key × D)) (st : Sto) : Prop where
  ext : ∃ t, st = st0 ++ t
  dict : st[n0]? = some (.dk kvs)
  some_ : ∀ o d, dval kvs (.inl o) = some d → ∃ m, d = .ref m ∧ n0 < m ∧ st[m]? = some (.lst (xs_ P o))
  none_ : ∀ o, dval kvs (.inl o) = none → at_ P o = []
  one : ∀ o o' m, dval kvs (.inl o) = some (.ref m) → dval kvs (.inl o') = some (.ref m) → o = o'
  keys : ∀ kv ∈ kvs, ∃ o, kv.1 = .inl o ∧ dval kvs (.inl o) = some kv.2
  base : st0.length ≤ n0
theorem at_app {P : List Lk} {x own o : Int} : at_ (P ++ [(x, own)]) o = if own = o then at_ P o ++ [(x, own)] else at_ P o := by
  unfold at_
  rw [List.filter_append]
  by_cases z : own = o
  · rw [if_pos z, List.filter_cons_of_pos (by simpa using z)]; rfl
  · rw [if_neg z, List.filter_cons_of_neg (by simpa using z), List.filter_nil, List.append_nil]
theorem mem_at {P : List Lk} {x own : Int} : (x, own) ∈ P ↔ .int x ∈ xs_ P own := by
  unfold xs_ at_
  rw [List.mem_map]
  refine ⟨fun h => ⟨(x, own), List.mem_filter.mpr ⟨h, by simp⟩, rfl⟩, fun ⟨p, hp, e⟩ => ?_⟩
  obtain ⟨h1, h2⟩ := List.mem_filter.mp hp
  have e1 : p.1 = x := D.int.inj e
  have e2 : p.2 = own := of_decide_eq_true h2
  rw [← e1, ← e2]
  exact h1
def xsI (P : List Lk) (o : Int) : List Int := (at_ P o).map (·.1)
theorem xs_ints (P : List Lk) (o : Int) : xs_ P o = (xsI P o).map .int := by unfold xs_ xsI; rw [List.map_map]; rfl
theorem mem_xsI {P : List Lk} {x own : Int} : (x, own) ∈ P ↔ x ∈ xsI P own := by
  rw [mem_at, xs_ints, List.mem_map]
  exact ⟨fun ⟨y, h, e⟩ => by cases e; exact h, fun h => ⟨x, h, rfl⟩⟩
theorem xin_ref {st : Sto} {i : Int} {m : Nat} {xs : List Int} (h : st[m]? = some (.lst (xs.map .int))) : gIn (.int i) (.ref m) st = .ok (.bl (decide (i ∈ xs))) st := by
  have e : gIn (.int i) (.ref m) st = gIn (.int i) (.lst (xs.map .int)) st := by
    unfold gIn hasD
    have : dref st (.ref m) = dref st (.lst (xs.map .int)) := by unfold dref; simp only [h]
    rw [this]
  rw [e, xin]
abbrev sBody : MS := (sSeq (sEx (mSetd (mVar 2) (mVar 4) (mBox (mLst mNil))))
  (sSeq (sIf (mB (mOp gIn (mVar 3) (mOp gDix (mVar 2) (mVar 4)))) (sRt (mC (.bl false))) sNx)
  (sEx (mMtT "list" gAppend (mOp gDix (mVar 2) (mVar 4)) (mCons (mVar 3) mNil)))))
theorem xsetd {ma mb mc : M D} {ρ : En} {st : Sto} : mSetd ma mb mc ρ st = (ma ρ st).bind fun x st => if (dcell st x).isSome = true then (mb ρ st).bind fun y st => (mc ρ st).bind fun z st => match x, keyD y with
  | .ref n, some q => match st[n]? with
    | some (.dk kvs) => if kvs.length < szMax then (match dval kvs q with
      | some d => .ok d st
      | none => .ok z (st.set n (.dk (dput kvs q z)))) else .no
    | _ => .no
  | _, _ => .no else .no := rfl
theorem dix_is {st : Sto} {n : Nat} {kvs : List (Key × D)} {o : Int} {d : D} (h : st[n]? = some (.dk kvs)) (h2 : dval kvs (.inl o) = some d) : gDix (.ref n) (.int o) st = .ok d st := by
  unfold gDix dcell keyD
  simp only [h, h2]
theorem app_is {st : Sto} {m : Nat} {ds : List D} {y : D} (h : st[m]? = some (.lst ds)) (hl : ds.length < szMax) : gAppend (.ref m) [y] st = .ok .non (st.set m (.lst (ds ++ [y]))) := by
  unfold gAppend
  simp only [h, hl, if_true]
/-- setdefault -/
theorem setd_ok {n0 : Nat} {st0 st : Sto} {P : List Lk} {kvs : List (Key × D)} {own : Int} {ρ : En} {ma mb : M D} (I : SI n0 st0 P kvs st) (hlen : kvs.length < szMax) (ha : ∀ st, ma ρ st = .ok (.ref n0) st) (hb : ∀ st, mb ρ st = .ok (.int own) st) :
    ∃ d kvs' st', mSetd ma mb (mBox (mLst mNil)) ρ st = .ok d st' ∧ SI n0 st0 P kvs' st' ∧ (dval kvs' (.inl own)).isSome = true ∧ kvs'.length ≤ kvs.length + 1 := by
  obtain ⟨t, ht⟩ := I.ext
  have hn : n0 < st.length := (List.getElem?_eq_some_iff.mp I.dict).1
  have hd1 : (st ++ [Cell.lst []])[n0]? = some (.dk kvs) := by rw [List.getElem?_append_left hn]; exact I.dict
  have hat : ∀ {m : Nat} {c : Cell}, st[m]? = some c → (st ++ [Cell.lst []])[m]? = some c := fun {m c} h => by rw [List.getElem?_append_left (List.getElem?_eq_some_iff.mp h).1]; exact h
  have e0 : dcell st (.ref n0) = some kvs := by unfold dcell; simp only [I.dict]
  have eb : mBox (mLst mNil) ρ st = .ok (.ref st.length) (st ++ [.lst []]) := rfl
  cases hk : dval kvs (.inl own) with
  | some d =>
    refine ⟨d, kvs, st ++ [Cell.lst []], ?_, ⟨⟨t ++ [Cell.lst []], by rw [ht, List.append_assoc]⟩, hd1, fun o d h => ?_, I.none_, I.one, I.keys, I.base⟩, by rw [hk]; rfl, by omega⟩
    · rw [xsetd, ha, bind_ok, e0]
      simp only [Option.isSome_some, if_true, hb, bind_ok, eb, keyD, hd1, hlen, hk]
    · obtain ⟨m, h1, h2, h3⟩ := I.some_ o d h
      exact ⟨m, h1, h2, hat h3⟩
  | none =>
    have hput : dput kvs (.inl own) (.ref st.length) = kvs ++ [(.inl own, .ref st.length)] := by
      unfold dput
      rw [dval_has, hk]
      rfl
    have hne : ∀ m, n0 ≠ m → ((st ++ [Cell.lst []]).set n0 (Cell.dk (kvs ++ [(Sum.inl own, D.ref st.length)])))[m]? = (st ++ [Cell.lst []])[m]? := fun m h => List.getElem?_set_ne h
    refine ⟨.ref st.length, kvs ++ [(Sum.inl own, D.ref st.length)], (st ++ [Cell.lst []]).set n0 (Cell.dk (kvs ++ [(Sum.inl own, D.ref st.length)])), ?_, ⟨?_, ?_, fun o d h => ?_, fun o h => ?_, fun o o' m h h' => ?_, fun kv hkv => ?_, ?_⟩, ?_, ?_⟩
    · rw [xsetd, ha, bind_ok, e0]
      simp only [Option.isSome_some, if_true, hb, bind_ok, eb, keyD, hd1, hlen, hk, hput]
    · have hn0 : st0.length ≤ n0 := I.base
      refine ⟨(t ++ [Cell.lst []]).set (n0 - st0.length) (Cell.dk (kvs ++ [(Sum.inl own, D.ref st.length)])), ?_⟩
      rw [ht, List.append_assoc, List.set_append_right _ _ I.base]
    · exact List.getElem?_set_self (by rw [List.length_append]; omega)
    · rw [dval_app] at h
      cases h2 : dval kvs (.inl o) with
      | some e =>
        rw [h2] at h
        cases h
        obtain ⟨m, g1, g2, g3⟩ := I.some_ o _ h2
        exact ⟨m, g1, g2, by rw [hne m (by omega)]; exact hat g3⟩
      | none =>
        rw [h2] at h
        dsimp only at h
        split at h
        · cases h
          refine ⟨st.length, rfl, hn, ?_⟩
          have := I.none_ o h2
          rw [hne _ (by omega), List.getElem?_append_right (Nat.le_refl _), Nat.sub_self]
          unfold xs_
          rw [this]
          rfl
        · cases h
    · rw [dval_app] at h
      cases h2 : dval kvs (.inl o) with
      | some e => rw [h2] at h; cases h
      | none => exact I.none_ o h2
    · have hm : ∀ o m, dval kvs (.inl o) = some (.ref m) → m < st.length := fun o m h => by
        obtain ⟨m', g1, g2, g3⟩ := I.some_ o _ h
        cases g1
        exact (List.getElem?_eq_some_iff.mp g3).1
      have key : ∀ o, dval (kvs ++ [(Sum.inl own, D.ref st.length)]) (.inl o) = some (.ref m) → (dval kvs (.inl o) = some (.ref m)) ∨ (o = own ∧ m = st.length) := fun o h => by
        rw [dval_app] at h
        cases h2 : dval kvs (.inl o) with
        | some e => rw [h2] at h; cases h; exact .inl rfl
        | none =>
          rw [h2] at h
          dsimp only at h
          split at h
          · rename_i e
            cases e
            cases h
            exact .inr ⟨rfl, rfl⟩
          · cases h
      rcases key o h with a | ⟨a, a'⟩ <;> rcases key o' h' with b | ⟨b, b'⟩
      · exact I.one o o' m a b
      · have := hm o m a; omega
      · have := hm o' m b; omega
      · rw [a, b]
    · rcases List.mem_append.mp hkv with z | z
      · obtain ⟨o, g1, g2⟩ := I.keys kv z
        exact ⟨o, g1, by rw [dval_app, g2]⟩
      · have e : kv = (Sum.inl own, D.ref st.length) := by simpa using z
        subst e
        exact ⟨own, rfl, by rw [dval_app, hk]; simp⟩
    · exact I.base
    · rw [dval_app, hk]; simp
    · rw [List.length_append]; exact Nat.le_refl _
/-- one look more -/
theorem look_ok {n0 : Nat} {st0 st : Sto} {P : List Lk} {kvs : List (Key × D)} {x own : Int} {o0 o1 : Option D} (I : SI n0 st0 P kvs st) (hlen : kvs.length < 1000) (hP : P.length < 1000) :
    (((x, own) ∈ P) ∧ ∃ st', sBody [o0, o1, some (.ref n0), some (.int x), some (.int own), none] st = .rt (.bl false) st' ∧ ∃ t, st' = st0 ++ t) ∨
    (((x, own) ∉ P) ∧ ∃ kvs' st', sBody [o0, o1, some (.ref n0), some (.int x), some (.int own), none] st = .nx [o0, o1, some (.ref n0), some (.int x), some (.int own), none] st' ∧ SI n0 st0 (P ++ [(x, own)]) kvs' st' ∧ kvs'.length ≤ kvs.length + 1) := by
  have hz : kvs.length < szMax := Nat.lt_trans hlen (by decide)
  obtain ⟨d, kvs', st', e1, I', hs, hl⟩ := setd_ok (own := own) (ρ := [o0, o1, some (.ref n0), some (.int x), some (.int own), none]) (ma := mVar 2) (mb := mVar 4) I hz (fun _ => rfl) (fun _ => rfl)
  obtain ⟨dd, hdd⟩ := Option.isSome_iff_exists.mp hs
  obtain ⟨m, rfl, hm, hc⟩ := I'.some_ own dd hdd
  have e2 := dix_is I'.dict hdd
  have e3 := xin_ref (i := x) (by rw [xs_ints] at hc; exact hc)
  have e4 : mMtT "list" gAppend (mOp gDix (mVar 2) (mVar 4)) (mCons (mVar 3) mNil) [o0, o1, some (.ref n0), some (.int x), some (.int own), none] st' = .ok .non (st'.set m (.lst (xs_ P own ++ [.int x]))) := by
    have ht : tyOk st' "list" (.ref m) = true := by unfold tyOk; simp only [hc]; rfl
    have hl : (xs_ P own).length < szMax := by
      refine Nat.lt_of_le_of_lt ?_ (Nat.lt_trans hP (by decide))
      unfold xs_ at_
      rw [List.length_map]
      exact List.length_filter_le _ _
    unfold mMtT
    simp -implicitDefEqProofs only [xOp, xVs, xV0, bind_ok, e2, ht, if_true, xCons', xNl, app_is hc hl]
  by_cases hx : x ∈ xsI P own
  · refine .inl ⟨mem_xsI.mpr hx, st', ?_, I'.ext⟩
    simp -implicitDefEqProofs only [xSeqS, xExS, e1, eb_ok, at_nx, xIfS, xB, xOp, xVs, xV0, bind_ok, e2, e3, decide_eq_true hx, xAsB, if_true, xRet, xC, at_rt]
  · refine .inr ⟨fun z => hx (mem_xsI.mp z), kvs', st'.set m (.lst (xs_ P own ++ [.int x])), ?_, ?_, hl⟩
    · simp -implicitDefEqProofs only [xSeqS, xExS, e1, eb_ok, at_nx, xIfS, xB, xOp, xVs, xV0, bind_ok, e2, e3, decide_eq_false hx, xAsB, Bool.false_eq_true, if_false, xNx, e4]
    · obtain ⟨t, ht⟩ := I'.ext
      have hb := I'.base
      refine ⟨⟨t.set (m - st0.length) (Cell.lst (xs_ P own ++ [D.int x])), by rw [ht, List.set_append_right _ _ (by omega)]⟩, by rw [List.getElem?_set_ne (by omega)]; exact I'.dict, fun o d h => ?_, fun o h => ?_, I'.one, I'.keys, I'.base⟩
      · obtain ⟨m', g1, g2, g3⟩ := I'.some_ o d h
        subst g1
        by_cases z : own = o
        · subst z
          rw [hdd] at h
          cases h
          refine ⟨m, rfl, hm, ?_⟩
          rw [List.getElem?_set_self (List.getElem?_eq_some_iff.mp hc).1]
          unfold xs_
          rw [at_app, if_pos rfl, List.map_append]
          rfl
        · have hne : m ≠ m' := fun e => by
            subst e
            exact z (I'.one own o m hdd h)
          refine ⟨m', rfl, g2, ?_⟩
          rw [List.getElem?_set_ne hne]
          unfold xs_
          rw [at_app, if_neg z]
          exact g3
      · have z : own ≠ o := fun e => by
          subst e
          rw [hdd] at h
          cases h
        rw [at_app, if_neg z]
        exact I'.none_ o h
theorem tg_pr {p : Lk} {o0 o1 o2 o3 o4 o5 : Option D} {st : Sto} : tTup 2 (tCons (tName 3) (tCons (tName 4) tNil)) (pr p) [o0, o1, o2, o3, o4, o5] st = some ([o0, o1, o2, some (.int p.1), some (.int p.2), o5], st) := rfl
theorem looks_go {n0 : Nat} {st0 : Sto} {o0 o1 : Option D} : ∀ (rest P : List Lk) (kvs : List (Key × D)) (o3 o4 : Option D) (st : Sto), SI n0 st0 P kvs st → kvs.length ≤ P.length → P.length + rest.length < 1000 → P.Nodup →
    (¬ (P ++ rest).Nodup ∧ ∃ st', forGo (tTup 2 (tCons (tName 3) (tCons (tName 4) tNil))) sBody (rest.map pr) [o0, o1, some (.ref n0), o3, o4, none] st = .rt (.bl false) st' ∧ ∃ t, st' = st0 ++ t) ∨
    ((P ++ rest).Nodup ∧ ∃ kvs' o3' o4' st', forGo (tTup 2 (tCons (tName 3) (tCons (tName 4) tNil))) sBody (rest.map pr) [o0, o1, some (.ref n0), o3, o4, none] st = .nx [o0, o1, some (.ref n0), o3', o4', none] st' ∧ SI n0 st0 (P ++ rest) kvs' st' ∧ kvs'.length ≤ (P ++ rest).length)
  | [], P, kvs, o3, o4, st, I, hk, hl, hn => .inr ⟨by rw [List.append_nil]; exact hn, kvs, o3, o4, st, rfl, by rw [List.append_nil]; exact I, by rw [List.append_nil]; exact hk⟩
  | (x, own) :: rest, P, kvs, o3, o4, st, I, hk, hl, hn => by
    rw [List.length_cons] at hl
    rw [List.map_cons]
    rcases look_ok (x := x) (own := own) (o0 := o0) (o1 := o1) I (by omega) (by omega) with ⟨hx, st', e, ht⟩ | ⟨hx, kvs', st', e, I', hk'⟩
    · refine .inl ⟨fun hnd => ?_, st', ?_, ht⟩
      · have := (List.nodup_append.mp hnd).2.2 _ hx (x, own) List.mem_cons_self
        exact this rfl
      · unfold forGo
        rw [tg_pr]
        dsimp only
        rw [e]
    · have hn' : (P ++ [(x, own)]).Nodup := List.nodup_append.mpr ⟨hn, by simp, fun a ha b hb => by
        have : b = (x, own) := by simpa using hb
        subst this
        exact fun e => hx (e ▸ ha)⟩
      have ih := looks_go (o0 := o0) (o1 := o1) rest (P ++ [(x, own)]) kvs' (some (.int x)) (some (.int own)) st' I' (by rw [List.length_append]; simp; omega) (by rw [List.length_append]; simp; omega) hn'
      rw [List.append_assoc] at ih
      unfold forGo
      rw [tg_pr]
      dsimp only
      rw [e]
      exact ih
theorem dval_mem {k : Key} {d : D} : ∀ {kvs : List (Key × D)}, dval kvs k = some d → (k, d) ∈ kvs
  | [], h => by cases h
  | (k1, d1) :: kvs, h => by
    unfold dval at h
    split at h
    · rename_i e
      cases h
      rw [e]
      exact List.mem_cons_self
    · exact List.mem_cons_of_mem _ (dval_mem h)
def few (P : List Lk) (l : Int) (kv : Key × D) : Bool := match kv.1 with
  | .inl o => decide (((at_ P o).length : Int) ≤ l)
  | .inr _ => true
theorem is_spread_ok {st : Sto} {looks : List Lk} {l : Int} (hl : 0 ≤ l) (hn : looks.length < 1000) : ∃ b st', f_is_spread [.tup (looks.map pr), .int l] st = .ok (.bl b) st' ∧ (∃ t, st' = st ++ t) ∧ (b = true ↔ looks.Nodup ∧ ∀ o, ((at_ looks o).length : Int) ≤ l) := by
  have I0 : SI st.length st [] [] (st ++ [Cell.dk []]) := ⟨⟨_, rfl⟩, by rw [List.getElem?_append_right (Nat.le_refl _), Nat.sub_self]; rfl, fun o d h => (by cases h), fun o h => rfl, fun o o' m h => (by cases h), fun kv h => (by cases h), Nat.le_refl _⟩
  have go := looks_go (o0 := some (.tup (looks.map pr))) (o1 := some (.int l)) looks [] [] none none _ I0 (Nat.le_refl _) (by simpa using hn) List.nodup_nil
  rw [List.nil_append] at go
  have hd : ∀ ρ st, mDict0 ρ st = .ok (.ref st.length) (st ++ [.dk []]) := fun _ _ => rfl
  rcases go with ⟨hnd, st', e, ht⟩ | ⟨hnd, kvs, o3, o4, st', e, I, hk⟩
  · refine ⟨false, st', ?_, ht, ⟨fun z => (by cases z), fun z => absurd z.1 hnd⟩⟩
    show ended (m_is_spread [some (.tup (looks.map pr)), some (.int l), none, none, none, none] st) = _
    unfold m_is_spread
    simp -implicitDefEqProofs only [xSeqS, xAs, hd, eb_ok, xName, st_some, at_nx, List.set_cons_succ, List.set_cons_zero, xFor, xSeq, xVs, xV0, bind_ok, seqD_tup]
    rw [e]
    rfl
  · obtain ⟨t, ht⟩ := I.ext
    have hlt : st.length < st'.length := (List.getElem?_eq_some_iff.mp I.dict).1
    have hlk : (st'.set st.length (.lk (.dk kvs)))[st.length]? = some (.lk (.dk kvs)) := List.getElem?_set_self hlt
    have lc : lcell (st'.set st.length (.lk (.dk kvs))) (.ref st.length) = some kvs := by unfold lcell; simp only [hlk]
    have c := compGo_map (t := tName 5) (me := mOp gLe (mCall gLen (mCons (mVar 5) mNil)) (mVar 1)) (vs := [5]) (ρ := [some (.tup (looks.map pr)), some (.int l), some (.ref st.length), o3, o4, none]) (st := st'.set st.length (.lk (.dk kvs))) (fun kv : Key × D => kv.2) (fun kv => .bl (few looks l kv)) kvs (Nat.le_trans (Nat.le_trans hk (Nat.le_of_lt hn)) (by decide)) fun kv hkv => by
      obtain ⟨o, h1, h2⟩ := I.keys kv hkv
      obtain ⟨m, h3, h4, h5⟩ := I.some_ o _ h2
      have h6 : (st'.set st.length (.lk (.dk kvs)))[m]? = some (.lst (xs_ looks o)) := by rw [List.getElem?_set_ne (by omega)]; exact h5
      refine ⟨[some (.tup (looks.map pr)), some (.int l), some (.ref st.length), o3, o4, some kv.2], rfl, ?_⟩
      have h7 := xlen (seqO_ref h6)
      have h8 : few looks l kv = decide (((xs_ looks o).length : Int) ≤ l) := by
        unfold few xs_
        rw [h1, List.length_map]
      rw [h8]
      simp -implicitDefEqProofs only [xOp, xCall, xCons', xVs, xV0, xNl, bind_ok, h3, h7, xle]
    have a : gAll [.lst (kvs.map fun kv => .bl (few looks l kv))] (st'.set st.length (.lk (.dk kvs))) = .ok (.bl ((kvs.map (few looks l)).all id)) (st'.set st.length (.lk (.dk kvs))) := by
      refine xall ?_
      rw [lstO_lst, Option.bind_some, ← blsO_map, List.map_map]
      rfl
    refine ⟨(kvs.map (few looks l)).all id, (st'.set st.length (.lk (.dk kvs))).set st.length (.dk kvs), ?_, ⟨t.set (st.length - st.length) (Cell.dk kvs), by rw [List.set_set, ht, List.set_append_right _ _ (Nat.le_refl _)]⟩, ?_⟩
    · show ended (m_is_spread [some (.tup (looks.map pr)), some (.int l), none, none, none, none] st) = _
      have lk : mLock 2 (mCall gAll (mCons (mPure (mComp (mVals (mVar 2)) (tName 5) mYes (mOp gLe (mCall gLen (mCons (mVar 5) mNil)) (mVar 1)) [5])) mNil)) [some (.tup (looks.map pr)), some (.int l), some (.ref st.length), o3, o4, none] st' = .ok (.bl ((kvs.map (few looks l)).all id)) ((st'.set st.length (.lk (.dk kvs))).set st.length (.dk kvs)) := by
        have v : mVals (mVar 2) [some (.tup (looks.map pr)), some (.int l), some (.ref st.length), o3, o4, none] (st'.set st.length (.lk (.dk kvs))) = .ok (kvs.map (·.2)) (st'.set st.length (.lk (.dk kvs))) := by
          unfold mVals
          simp -implicitDefEqProofs only [xVs, xV0, bind_ok, lc]
        have body : mCall gAll (mCons (mPure (mComp (mVals (mVar 2)) (tName 5) mYes (mOp gLe (mCall gLen (mCons (mVar 5) mNil)) (mVar 1)) [5])) mNil) [some (.tup (looks.map pr)), some (.int l), some (.ref st.length), o3, o4, none] (st'.set st.length (.lk (.dk kvs))) = .ok (.bl ((kvs.map (few looks l)).all id)) (st'.set st.length (.lk (.dk kvs))) := by
          simp -implicitDefEqProofs only [xCall, xCons', xPure, xComp, v, bind_ok, c, xNl, a]
        unfold mLock
        show (match st'[st.length]? with | some c => if lockable c = true then (match mCall gAll _ _ (st'.set st.length (.lk c)) with | .ok d st' => (match st'[st.length]? with | some (.lk c') => if lockable c' = true then Res.ok d (st'.set st.length c') else .no | _ => .no) | _ => .no) else .no | _ => .no) = _
        rw [I.dict]
        dsimp only
        rw [if_pos (show lockable (Cell.dk kvs) = true from rfl), body]
        dsimp only
        rw [hlk]
        rfl
      unfold m_is_spread
      simp -implicitDefEqProofs only [xSeqS, xAs, hd, eb_ok, xName, st_some, at_nx, List.set_cons_succ, List.set_cons_zero, xFor, xSeq, xVs, xV0, bind_ok, seqD_tup]
      rw [e]
      simp -implicitDefEqProofs only [at_nx, xRet, lk, eb_ok, en_rt]
    · rw [List.all_map, List.all_eq_true]
      refine ⟨fun h => ⟨hnd, fun o => ?_⟩, fun h kv hkv => ?_⟩
      · cases hv : dval kvs (.inl o) with
        | none => rw [I.none_ o hv]; exact hl
        | some d =>
          have := h _ (dval_mem hv)
          exact of_decide_eq_true this
      · obtain ⟨o, h1, h2⟩ := I.keys kv hkv
        show few looks l kv = true
        unfold few
        rw [h1]
        exact decide_eq_true (h.2 o)
end Kq

namespace Kq
open PySem PySem.Spec Kp
def wk (l f : Int) (n : Nat) : List Lk := (rngI 0 n).map fun x => (x, f + x / l)
theorem wl_pr (l f : Int) (n : Nat) : wl l f n = (wk l f n).map pr := by unfold wl wk; rw [List.map_map]; rfl
theorem wk_len (l f : Int) (n : Nat) : (wk l f n).length = n := by unfold wk; rw [List.length_map, rng_len]
theorem rng_nd (a : Int) (n : Nat) : (rngI a n).Nodup := by
  unfold rngI
  refine List.pairwise_map.mpr (List.Pairwise.imp (fun {x y} h e => h ?_) List.nodup_range)
  omega
theorem wk_nd (l f : Int) (n : Nat) : (wk l f n).Nodup := by
  unfold wk
  refine List.pairwise_map.mpr (List.Pairwise.imp (fun {x y} h e => h ?_) (rng_nd 0 n))
  exact (Prod.mk.inj e).1
theorem uniq_id : ∀ {xs : List (List Int)}, xs.Nodup → uniq xs = xs
  | [], _ => rfl
  | x :: xs, h => by
    unfold uniq
    rw [if_neg (List.nodup_cons.mp h).1, uniq_id (List.nodup_cons.mp h).2]
theorem rows_pr : ∀ (LK : List Lk), rowsD (LK.map pr) = some (LK.map fun p => [p.1, p.2])
  | [] => rfl
  | p :: LK => by
    rw [List.map_cons]
    unfold pr rowsD
    have e : intsO [.int p.1, .int p.2] = some [p.1, p.2] := rfl
    rw [e, show (List.map (fun p => D.tup [D.int p.1, D.int p.2]) LK) = LK.map pr from rfl, rows_pr LK]
    rfl
theorem pairs_nd {LK : List Lk} (h : LK.Nodup) : (LK.map fun p => [p.1, p.2]).Nodup := by
  refine List.pairwise_map.mpr (List.Pairwise.imp (fun {x y} h e => h ?_) h)
  have e1 := (List.cons.inj e).1
  have e2 := (List.cons.inj (List.cons.inj e).2).1
  exact Prod.ext e1 e2
/-- so many stand at one own -/
theorem wk_at {l f o : Int} {n : Nat} (hl : 0 < l) : ((at_ (wk l f n) o).length : Int) ≤ l := by
  unfold at_ wk
  rw [List.filter_map, List.length_map]
  obtain ⟨a, ha⟩ : ∃ a : Int, a = l * (o - f) := ⟨_, rfl⟩
  have e : (rngI 0 n).filter ((fun p : Lk => decide (p.2 = o)) ∘ fun x => (x, f + x / l)) = rngI (min (max 0 a) n) (max (min (n - 1 : Int) (a + l - 1)) (min (max 0 a) n - 1) + 1 - min (max 0 a) n).toNat := by
    refine filter_iv (fun x hx => ?_) (by omega) (by omega) (by omega)
    have hx' := mem_rng.mp hx
    show decide (f + x / l = o) = _
    refine decide_eq_decide.mpr ?_
    have h1 := (div_le (r := l) (x := x) (y := x) hl).1.mp (Int.le_refl _)
    have h2 := (div_le (r := l) (x := x) (y := x) hl).2.mp (Int.le_refl _)
    refine ⟨fun h => ?_, fun h => ?_⟩
    · have : x / l = o - f := by omega
      rw [this] at h1 h2
      omega
    · have h3 : a ≤ x ∧ x ≤ a + l - 1 := by omega
      have : x / l = o - f := by
        refine Int.le_antisymm ?_ ?_
        · have := (Int.ediv_lt_iff_lt_mul hl (a := x) (b := o - f + 1)).mpr (by rw [Int.add_mul, Int.one_mul, Int.mul_comm]; omega)
          omega
        · exact (Int.le_ediv_iff_mul_le hl).mpr (by rw [Int.mul_comm]; omega)
      omega
  rw [e, rng_len]
  omega
theorem all_true {α : Type} {st : Sto} (xs : List α) : gAll [.lst (xs.map fun _ => D.bl true)] st = .ok (.bl true) st := by
  have h : (lstO st (.lst (xs.map fun _ => D.bl true))).bind blsO = some (xs.map fun _ => true) := by
    rw [lstO_lst, Option.bind_some, ← blsO_map, List.map_map]
    rfl
  rw [xall h]
  simp
theorem any_is {α : Type} {st : Sto} (xs : List α) (p : α → Bool) : gAny [.lst (xs.map fun x => D.bl (p x))] st = .ok (.bl (xs.any p)) st := by
  have h : (lstO st (.lst (xs.map fun x => D.bl (p x)))).bind blsO = some (xs.map p) := by
    rw [lstO_lst, Option.bind_some, ← blsO_map, List.map_map]
    rfl
  rw [xany h, List.any_map]
  rfl
theorem most_is {st : Sto} {k f l d r q : Int} (hl : 0 ≤ l) (hl2 : l < 1000) : f_most_counted [.int k, .int f, .int l, .int d, .int r, .int q] st = .ok (.int (min k (f + l * (d + r + q)))) st := by
  show ended (m_most_counted [some (.int k), some (.int f), some (.int l), some (.int d), some (.int r), some (.int q)] st) = _
  unfold m_most_counted
  simp -implicitDefEqProofs only [xRet, xCall, xCons', xOp, xFn, xVs, xV0, xNl, bind_ok, List.append_nil, List.length_cons, List.length_nil, Nat.reduceAdd, Nat.zero_add, if_true, kept_is, xmulL (show l.natAbs < 2 ^ 64 by omega), xadd, xmin, eb_ok, en_rt]
theorem copies_is {st : Sto} {f l d r q : Int} {t : Bool} (hl : 0 ≤ l) (hl2 : l < 1000) : f_kept_copies [.int f, .int l, .int d, .int r, .int q, .bl t] st = .ok (.int ((if t = true then 4 else 3) * f + l * (d + r + q) + 1)) st := by
  show ended (m_kept_copies [some (.int f), some (.int l), some (.int d), some (.int r), some (.int q), some (.bl t)] st) = _
  unfold m_kept_copies
  cases t <;> simp -implicitDefEqProofs only [xRet, xCons', xOp, xFn, xVs, xV0, xC, xNl, xIf, xB, xAsB, Bool.false_eq_true, if_false, bind_ok, List.append_nil, List.length_cons, List.length_nil, Nat.reduceAdd, Nat.zero_add, if_true, kept_is, xmulL (show l.natAbs < 2 ^ 64 by omega), xmulL (show (3 : Int).natAbs < 2 ^ 64 by decide), xmulL (show (4 : Int).natAbs < 2 ^ 64 by decide), xadd, eb_ok, en_rt]
abbrev RW (b : Nat) (i : Int) (ow : List Int) (LK : List Lk) (o4 o5 o6 : Option D) (d r q k f l : Int) (o13 : Option D) : En := [some (.ref b), some (.int i), some (.lst (ow.map .int)), some (.tup (LK.map pr)), o4, o5, o6, some (.int d), some (.int r), some (.int q), some (.int k), some (.int f), some (.int l), o13, none, none, none, none, none, none]
section
variable {b : Nat} {i d r q k f l : Int} {ow : List Int} {LK : List Lk} {o4 o5 o6 o13 : Option D} {st : Sto}
theorem w1 (hL : LK.length ≤ 1000) : compGo (tName 17) mYes (mAnd (mIsi "tuple" (mVar 17)) (mOp gEq (mCall gLen (mCons (mVar 17) mNil)) (mC (.int 2)))) [17] (RW b i ow LK o4 o5 o6 d r q k f l o13) (LK.map pr) 0 st = .ok (LK.map fun _ => .bl true) st :=
  compGo_map pr _ LK (Nat.le_trans hL (by decide)) fun p _ => ⟨[some (.ref b), some (.int i), some (.lst (ow.map .int)), some (.tup (LK.map pr)), o4, o5, o6, some (.int d), some (.int r), some (.int q), some (.int k), some (.int f), some (.int l), o13, none, none, none, some (pr p), none, none], rfl, by
    have h : tyName st (pr p) = some "tuple" := rfl
    have h2 : gLen [pr p] st = .ok (.int 2) st := rfl
    have h3 : subT "tuple" "tuple" = true := by decide
    simp -implicitDefEqProofs only [xAnd, xB, xIsi, xVs, xV0, bind_ok, h, h3, xAsB, if_true, xOp, xCall, xCons', xNl, h2, xC, xeq, decide_true]⟩
theorem w2 (hL : LK.length ≤ 1000) (h : ∀ p ∈ LK, 0 ≤ p.1 ∧ p.1 < k) : compGo (tTup 2 (tCons (tName 15) (tCons (tName 14) tNil))) mYes (mAnd (mFn 2 (f__law_same 8) [] (mCons (mVar 15) (mCons (mCall gInt (mCons (mVar 15) mNil)) mNil))) (mAnd (mFn 2 (f__law_same 8) [] (mCons (mVar 14) (mCons (mCall gInt (mCons (mVar 14) mNil)) mNil))) (mChain gLe gLt (mC (.int 0)) (mVar 15) (mVar 10)))) [15, 14] (RW b i ow LK o4 o5 o6 d r q k f l o13) (LK.map pr) 0 st = .ok (LK.map fun _ => .bl true) st :=
  compGo_map pr _ LK (Nat.le_trans hL (by decide)) fun p hp => ⟨[some (.ref b), some (.int i), some (.lst (ow.map .int)), some (.tup (LK.map pr)), o4, o5, o6, some (.int d), some (.int r), some (.int q), some (.int k), some (.int f), some (.int l), o13, some (.int p.2), some (.int p.1), none, none, none, none], rfl, by
    obtain ⟨h1, h2⟩ := h p hp
    have s1 : f__law_same 8 [.int p.1, .int p.1] st = .ok (.bl true) st := same_int
    have s2 : f__law_same 8 [.int p.2, .int p.2] st = .ok (.bl true) st := same_int
    simp -implicitDefEqProofs only [xAnd, xB, xFn, xVs, xV0, bind_ok, xAsB, if_true, xCall, xCons', xNl, xint, List.append_nil, List.length_cons, List.length_nil, Nat.reduceAdd, Nat.zero_add, s1, s2, xChain, xC, xle, xlt, decide_eq_true h1, decide_eq_true h2]⟩
theorem w3 (hL : LK.length ≤ 1000) (h : ∀ o, ((at_ LK o).length : Int) ≤ l) : compGo (tTup 2 (tCons (tName 18) (tCons (tName 14) tNil))) mYes (mOp gGt (mCall gLen (mCons (mPure (mComp (mSeq (mVar 3)) (tTup 2 (tCons (tName 15) (tCons (tName 19) tNil))) (mB (mOp gEq (mVar 19) (mVar 14))) (mC (.int 1)) [15, 19])) mNil)) (mVar 12)) [18, 14] (RW b i ow LK o4 o5 o6 d r q k f l o13) (LK.map pr) 0 st = .ok (LK.map fun _ => .bl false) st :=
  compGo_map pr _ LK (Nat.le_trans hL (by decide)) fun p hp => ⟨[some (.ref b), some (.int i), some (.lst (ow.map .int)), some (.tup (LK.map pr)), o4, o5, o6, some (.int d), some (.int r), some (.int q), some (.int k), some (.int f), some (.int l), o13, some (.int p.2), none, none, none, some (.int p.1), none], rfl, by
    have c := compGo_pure (t := tTup 2 (tCons (tName 15) (tCons (tName 19) tNil))) (tt := mB (mOp gEq (mVar 19) (mVar 14))) (me := mC (.int 1)) (vs := [15, 19]) (ρ := [some (.ref b), some (.int i), some (.lst (ow.map .int)), some (.tup (LK.map pr)), o4, o5, o6, some (.int d), some (.int r), some (.int q), some (.int k), some (.int f), some (.int l), o13, some (.int p.2), none, none, none, some (.int p.1), none]) (st := st) pr (fun z => decide (z.2 = p.2)) (fun _ => .int 1) LK 0 (by rw [Nat.zero_add]; exact Nat.le_trans hL (by decide)) fun z _ =>
      ⟨[some (.ref b), some (.int i), some (.lst (ow.map .int)), some (.tup (LK.map pr)), o4, o5, o6, some (.int d), some (.int r), some (.int q), some (.int k), some (.int f), some (.int l), o13, some (.int p.2), some (.int z.1), none, none, some (.int p.1), some (.int z.2)], rfl, by
        simp -implicitDefEqProofs only [xB, xOp, xVs, xV0, bind_ok, xeq, xAsB], fun _ => rfl⟩
    have hf : ¬ l < ((LK.filter fun z => decide (z.2 = p.2)).length : Int) := by
      have := h p.2
      unfold at_ at this
      omega
    simp -implicitDefEqProofs only [xOp, xCall, xCons', xPure, xComp, xSeq, xVs, xV0, bind_ok, seqD_tup, c, xNl, xlen_lst, List.length_map, xgt, decide_eq_false hf]⟩
theorem w4 {n : Nat} (hk : 0 ≤ k) (hk2 : k < 1000) (hnk : (n : Int) ≤ k) (hL : LK.length ≤ 1000) (hd : 0 ≤ d) (hr : 0 < r) (hr2 : r < 1000) (hq : 0 ≤ q) (h0 : 0 ≤ i) (hp : ∀ p ∈ LK, lo r i ≤ p.2 ∧ p.2 ≤ hi d r q i ∧ 0 ≤ p.2 ∧ p.2 < 1000) (hx : ∀ x : Int, 0 ≤ x → ((LK.any fun p => decide (p.1 = x)) = decide (x < n))) :
    compGo (tName 15) (mB (mCall gAny (mCons (mPure (mComp (mSeq (mVar 3)) (tTup 2 (tCons (tName 18) (tCons (tName 14) tNil))) mYes (mAnd (mOp gEq (mVar 18) (mVar 15)) (mFn 5 f__law_has [] (mCons (mVar 7) (mCons (mVar 8) (mCons (mVar 9) (mCons (mVar 14) (mCons (mVar 1) mNil))))))) [18, 14])) mNil))) (mVar 15) [15] (RW b i ow LK o4 o5 o6 d r q k f l o13) ((rngI 0 k.toNat).map .int) 0 st = .ok ((rngI 0 n).map .int) st := by
  have c := compGo_pure (t := tName 15) (tt := mB (mCall gAny (mCons (mPure (mComp (mSeq (mVar 3)) (tTup 2 (tCons (tName 18) (tCons (tName 14) tNil))) mYes (mAnd (mOp gEq (mVar 18) (mVar 15)) (mFn 5 f__law_has [] (mCons (mVar 7) (mCons (mVar 8) (mCons (mVar 9) (mCons (mVar 14) (mCons (mVar 1) mNil))))))) [18, 14])) mNil))) (me := mVar 15) (vs := [15]) (ρ := RW b i ow LK o4 o5 o6 d r q k f l o13) (st := st) D.int (fun x => decide (x < n)) D.int (rngI 0 k.toNat) 0 (by rw [rng_len, Nat.zero_add]; exact Nat.le_trans (show k.toNat ≤ 1000 by omega) (by decide)) fun x hxm => by
    refine ⟨[some (.ref b), some (.int i), some (.lst (ow.map .int)), some (.tup (LK.map pr)), o4, o5, o6, some (.int d), some (.int r), some (.int q), some (.int k), some (.int f), some (.int l), o13, none, some (.int x), none, none, none, none], rfl, ?_, fun _ => rfl⟩
    have hx0 := (mem_rng.mp hxm).1
    have c2 := compGo_map (t := tTup 2 (tCons (tName 18) (tCons (tName 14) tNil))) (me := mAnd (mOp gEq (mVar 18) (mVar 15)) (mFn 5 f__law_has [] (mCons (mVar 7) (mCons (mVar 8) (mCons (mVar 9) (mCons (mVar 14) (mCons (mVar 1) mNil))))))) (vs := [18, 14]) (ρ := [some (.ref b), some (.int i), some (.lst (ow.map .int)), some (.tup (LK.map pr)), o4, o5, o6, some (.int d), some (.int r), some (.int q), some (.int k), some (.int f), some (.int l), o13, none, some (.int x), none, none, none, none]) (st := st) pr (fun p => .bl (decide (p.1 = x))) LK (Nat.le_trans hL (by decide)) fun p hpm => by
      refine ⟨[some (.ref b), some (.int i), some (.lst (ow.map .int)), some (.tup (LK.map pr)), o4, o5, o6, some (.int d), some (.int r), some (.int q), some (.int k), some (.int f), some (.int l), o13, some (.int p.2), some (.int x), none, none, some (.int p.1), none], rfl, ?_⟩
      obtain ⟨g1, g2, g3, g4⟩ := hp p hpm
      have hh := has_is (st := st) (i := i) (own := p.2) hd hr hr2 hq g3 g4
      rw [has_iv hd hr hq g3 h0, decide_eq_true ⟨g1, g2⟩] at hh
      by_cases z : p.1 = x
      · simp -implicitDefEqProofs only [xAnd, xB, xOp, xVs, xV0, bind_ok, xeq, decide_eq_true z, xAsB, if_true, xFn, xCons', xNl, List.append_nil, List.length_cons, List.length_nil, Nat.reduceAdd, Nat.zero_add, hh]
      · simp -implicitDefEqProofs only [xAnd, xB, xOp, xVs, xV0, bind_ok, xeq, decide_eq_false z, xAsB, Bool.false_eq_true, if_false]
    simp -implicitDefEqProofs only [xB, xCall, xCons', xPure, xComp, xSeq, xVs, xV0, bind_ok, seqD_tup, c2, xNl, any_is, hx x hx0, xAsB]
  rw [c]
  congr 2
  have q1 := filter_iv (a := 0) (n := k.toNat) (f := 0) (c := n - 1) (p := fun x => decide (x < n)) (fun x hx => decide_eq_decide.mpr (by have := mem_rng.mp hx; omega)) (by omega) (by omega) (by omega)
  rw [q1]
  congr 1
  omega
end
end Kq

namespace Kq
open PySem PySem.Spec Kp
theorem worst_ok {st : Sto} {b : Nat} (hb : Box st b) : ∃ st', f__law_worst [.ref b] st = .ok (.bl true) st' ∧ Box st' b := by
  obtain ⟨d, r, q, s1, e1, hd, hd2, hr, hr2, hq, hq2, x1⟩ := numbers_ok hb
  have b1 := x1.box hb
  obtain ⟨tk, s2, e2, hk1, hk2, x2⟩ := take_ok (n := 24) b1 (by decide) (by decide)
  have b2 := x2.box b1
  obtain ⟨f, s3, e3, hf1, hf2, x3⟩ := take_ok (n := 4) b2 (by decide) (by decide)
  have b3 := x3.box b2
  obtain ⟨l, s4, e4, hl1, hl2, x4⟩ := take_ok (n := 4) b3 (by decide) (by decide)
  have b4 := x4.box b3
  obtain ⟨u, s5, e5, hu1, hu2, x5⟩ := take_ok (n := 5) b4 (by decide) (by decide)
  have b5 := x5.box b4
  obtain ⟨v, s6, e6, hv1, hv2, x6⟩ := take_ok (n := 60) b5 (by decide) (by decide)
  have b6 := x6.box b5
  obtain ⟨iD, st7, e7, h7, x7⟩ := pick_ok (ds := [.int 0, .int (r * u), .int v]) b6 (by simp) (by simp)
  have b7 := x7.box b6
  have hru : 0 ≤ r * u ∧ r * u < 60 := by
    have h1 := Int.mul_nonneg (show 0 ≤ r by omega) hu1
    have h2 : r * u ≤ 9 * 4 := Int.mul_le_mul hr2 (by omega) hu1 (by decide)
    omega
  obtain ⟨i, rfl, hi1, hi2⟩ : ∃ i : Int, iD = .int i ∧ 0 ≤ i ∧ i < 60 := by
    simp only [List.mem_cons, List.not_mem_nil, or_false] at h7
    rcases h7 with h | h | h
    · exact ⟨_, h, by decide, by decide⟩
    · exact ⟨_, h, hru.1, hru.2⟩
    · exact ⟨_, h, hv1, hv2⟩
  obtain ⟨k, hk⟩ : ∃ k : Int, k = 1 + tk := ⟨_, rfl⟩
  have hbd := hi_bd (i := i) (r := r) hd (by omega) hq
  have hl0 := lo_nn (r := r) (by omega) hi1
  obtain ⟨m, hm⟩ : ∃ m : Int, m = hi d r q i - lo r i + 1 := ⟨_, rfl⟩
  have hlm : 0 ≤ l * m := Int.mul_nonneg hl1 (by omega)
  obtain ⟨n, hn⟩ : ∃ n : Nat, n = (min k (l * m)).toNat := ⟨_, rfl⟩
  obtain ⟨LK, hLK⟩ : ∃ LK, LK = wk l (lo r i) n := ⟨_, rfl⟩
  have hLl : LK.length = n := by rw [hLK]; exact wk_len _ _ _
  have hL : LK.length ≤ 1000 := by omega
  have hnd : LK.Nodup := by rw [hLK]; exact wk_nd _ _ _
  have hw : f_worst_looks [.int k, .int l, .int d, .int r, .int q, .int i] st7 = .ok (.tup (LK.map pr)) st7 := by
    rw [worst_is hd (by omega) (by omega) hq hi1 (by omega) (by omega) (by omega) hl1 (by omega), ← hm, ← hn, hLK, wl_pr]
    by_cases z : 0 < l
    · rw [if_pos z]
    · have : n = 0 := by
        have : l = 0 := by omega
        rw [hn, this, Int.zero_mul]
        omega
      rw [if_neg z, this]
      rfl
  have hmem : ∀ p ∈ LK, 0 ≤ p.1 ∧ p.1 < k ∧ p.1 < n ∧ lo r i ≤ p.2 ∧ p.2 ≤ hi d r q i := fun p hp => by
    rw [hLK] at hp
    unfold wk at hp
    obtain ⟨x, hx, rfl⟩ := List.mem_map.mp hp
    have hx' := mem_rng.mp hx
    have hlp : 0 < l := by
      by_cases z : 0 < l
      · exact z
      · have : l = 0 := by omega
        rw [this, Int.zero_mul] at hn
        omega
    have h1 : x / l < m := (Int.ediv_lt_iff_lt_mul hlp).mpr (by rw [Int.mul_comm]; omega)
    have h2 : 0 ≤ x / l := Int.ediv_nonneg hx'.1 hl1
    show 0 ≤ x ∧ x < k ∧ x < (n : Int) ∧ lo r i ≤ lo r i + x / l ∧ lo r i + x / l ≤ hi d r q i
    omega
  have hat : ∀ o, ((at_ LK o).length : Int) ≤ l := fun o => by
    by_cases z : 0 < l
    · rw [hLK]; exact wk_at z
    · have : n = 0 := by
        have : l = 0 := by omega
        rw [hn, this, Int.zero_mul]
        omega
      have : LK = [] := by
        rw [hLK, this]
        rfl
      rw [this]
      exact hl1
  have hany : ∀ x : Int, 0 ≤ x → ((LK.any fun p => decide (p.1 = x)) = decide (x < (n : Int))) := fun x hx => by
    by_cases z : x < (n : Int)
    · rw [decide_eq_true z, List.any_eq_true]
      refine ⟨(x, lo r i + x / l), ?_, by simp⟩
      rw [hLK]
      unfold wk
      exact List.mem_map.mpr ⟨x, mem_rng.mpr (by omega), rfl⟩
    · rw [decide_eq_false z, List.any_eq_false]
      intro p hp
      have := (hmem p hp).2.2.1
      simp
      omega
  -- owns
  have en : rng1 [.int (i + d + r + q + 4)] st7 = .ok ((rngI 0 (i + d + r + q + 4).toNat).map .int) st7 := xrng1 (by omega) (by omega)
  have c0 := owns_of (t := tName 14) (a1 := mVar 7) (a2 := mVar 8) (a3 := mVar 9) (a4 := mVar 14) (a5 := mVar 1) (vs := [14]) (ρ := [some (.ref b), some (.int i), none, none, none, none, none, some (.int d), some (.int r), some (.int q), some (.int k), some (.int f), some (.int l), none, none, none, none, none, none, none]) (st := st7) (n := (i + d + r + q + 4).toNat) hd (show 0 < r by omega) (by omega) hq hi1 (by omega) (by omega) fun own => ⟨_, rfl, rfl, rfl, rfl, rfl, rfl⟩
  have ty : tyName st7 (.tup (LK.map pr)) = some "tuple" := rfl
  have hsub : subT "tuple" "tuple" = true := by decide
  have c1 := w1 (b := b) (i := i) (ow := ownsL d r q i) (o4 := none) (o5 := none) (o6 := none) (o13 := none) (d := d) (r := r) (q := q) (k := k) (f := f) (l := l) (st := st7) hL
  have c2 := w2 (b := b) (i := i) (ow := ownsL d r q i) (o4 := none) (o5 := none) (o6 := none) (o13 := none) (d := d) (r := r) (q := q) (k := k) (f := f) (l := l) (st := st7) hL fun p hp => ⟨(hmem p hp).1, (hmem p hp).2.1⟩
  have c3 := w3 (b := b) (i := i) (ow := ownsL d r q i) (o4 := none) (o5 := none) (o6 := none) (o13 := none) (d := d) (r := r) (q := q) (k := k) (f := f) (l := l) (st := st7) hL hat
  have c4 := w4 (b := b) (i := i) (ow := ownsL d r q i) (o4 := none) (o5 := none) (o6 := none) (o13 := none) (d := d) (r := r) (q := q) (k := k) (f := f) (l := l) (st := st7) (n := n) (by omega) (by omega) (by omega) hL hd (by omega) (by omega) hq hi1 (fun p hp => by have := hmem p hp; omega) hany
  have a1 : gAny [.lst (LK.map fun _ => D.bl false)] st7 = .ok (.bl false) st7 := by
    rw [any_is LK fun _ => false]
    congr 2
    simp
  have ls : ∀ ρ, mLenSet (mVar 3) (some (.ref b) :: some (.int i) :: some (.lst ((ownsL d r q i).map .int)) :: some (.tup (LK.map pr)) :: ρ) st7 = .ok (.int LK.length) st7 := fun ρ => by
    unfold mLenSet
    simp -implicitDefEqProofs only [xVs, xV0, bind_ok, seqO_tup, rows_pr, List.length_map, show LK.length < 64 by omega, if_true, uniq_id (pairs_nd hnd)]
  have rk : rng1 [.int k] st7 = .ok ((rngI 0 k.toNat).map .int) st7 := xrng1 (by omega) (by omega)
  have ol := owns_len (i := i) hd (show 0 < r by omega) hq
  have hcnt : (n : Int) = min k (l * ((ownsL d r q i).length : Int)) := by
    rw [ol, show hi d r q i + 1 - lo r i = m by omega, hn]
    omega
  obtain ⟨bb, st8, e8, ⟨tt, ht⟩, hbb⟩ := is_spread_ok (st := st7) (looks := LK) (l := l) hl1 (by omega)
  have hbt : bb = true := hbb.mpr ⟨hnd, hat⟩
  subst hbt
  have b8 : Box st8 b := by
    obtain ⟨c, x, y, h⟩ := b7
    exact ⟨c, x, y, by rw [ht, List.getElem?_append_left (List.getElem?_eq_some_iff.mp h).1]; exact h⟩
  have isn : gIsNot (.bl true) (.bl true) st8 = .ok (.bl false) st8 := rfl
  obtain ⟨L, m1, m2⟩ := most_go (ρ := RW b i (ownsL d r q i) LK (some (.lst ((rngI 0 n).map .int))) none none d r q k f l none) (st := st8) (t1 := tName 16) (t2 := tName 14) (a1 := mVar 7) (a2 := mVar 8) (a3 := mVar 9) (a4 := mVar 14) (a5 := mVar 16) (m4 := mOp gAdd (mOp gAdd (mOp gAdd (mOp gAdd (mVar 16) (mVar 7)) (mVar 8)) (mVar 9)) (mC (.int 4))) (v1 := [16]) (v2 := [14]) hd hd2 (show 0 < r by omega) (by omega) hq hq2
    (fun j => ⟨_, rfl, rfl, fun own => ⟨_, rfl, rfl, rfl, rfl, rfl, rfl⟩⟩)
  have m3 : rng1 [.int r] st8 = .ok ((rngI 0 r.toNat).map .int) st8 := xrng1 (by omega) (by omega)
  have m4 := most_is (st := st8) (k := k) (f := f) (l := l) (d := d) (r := r) (q := q) hl1 (by omega)
  have m5 : f__law_same 8 [.int (min k (f + l * (d + r + q))), .int (min k (f + l * (d + r + q)))] st8 = .ok (.bl true) st8 := same_int
  have k1 := copies_is (st := st8) (f := f) (l := l) (d := d) (r := r) (q := q) (t := false) hl1 (by omega)
  have k2 := copies_is (st := st8) (f := f) (l := l) (d := d) (r := r) (q := q) (t := true) hl1 (by omega)
  have k3 : f__law_same 8 [.int (3 * f + l * (d + r + q) + 1), .int (3 * f + l * (d + r + q) + 1)] st8 = .ok (.bl true) st8 := same_int
  have k4 : f__law_same 8 [.int (4 * f + l * (d + r + q) + 1), .int (4 * f + l * (d + r + q) + 1)] st8 = .ok (.bl true) st8 := same_int
  rw [if_neg (by decide)] at k1
  rw [if_pos rfl] at k2
  have wl64 : l.natAbs < 2 ^ 64 := by omega
  have wf64 : f.natAbs < 2 ^ 64 := by omega
  have loop : forGo (tName 6) (sSeq (sAs (tName 13) (mOp gAdd (mOp gAdd (mOp gMul (mOp gAdd (mC (.int 3)) (mCall gInt (mCons (mVar 6) mNil))) (mVar 11)) (mOp gMul (mVar 12) (mVar 5))) (mC (.int 1))))
      (sIf (mNotT (mB (mFn 2 (f__law_same 8) [] (mCons (mFn 6 f_kept_copies [] (mCons (mVar 11) (mCons (mVar 12) (mCons (mVar 7) (mCons (mVar 8) (mCons (mVar 9) (mCons (mVar 6) mNil))))))) (mCons (mVar 13) mNil))))) (sRt (mC (.bl false))) sNx)) [.bl false, .bl true] (RW b i (ownsL d r q i) LK (some (.lst ((rngI 0 n).map .int))) (some (.int (d + r + q))) none d r q k f l none) st8 = .nx (RW b i (ownsL d r q i) LK (some (.lst ((rngI 0 n).map .int))) (some (.int (d + r + q))) (some (.bl true)) d r q k f l (some (.int (4 * f + l * (d + r + q) + 1)))) st8 := by
    have z0 : (3 + (if false = true then 1 else 0) : Int) = 3 := rfl
    have z1 : (3 + (if true = true then 1 else 0) : Int) = 4 := rfl
    have step1 : (sSeq (sAs (tName 13) (mOp gAdd (mOp gAdd (mOp gMul (mOp gAdd (mC (.int 3)) (mCall gInt (mCons (mVar 6) mNil))) (mVar 11)) (mOp gMul (mVar 12) (mVar 5))) (mC (.int 1))))
        (sIf (mNotT (mB (mFn 2 (f__law_same 8) [] (mCons (mFn 6 f_kept_copies [] (mCons (mVar 11) (mCons (mVar 12) (mCons (mVar 7) (mCons (mVar 8) (mCons (mVar 9) (mCons (mVar 6) mNil))))))) (mCons (mVar 13) mNil))))) (sRt (mC (.bl false))) sNx)) (RW b i (ownsL d r q i) LK (some (.lst ((rngI 0 n).map .int))) (some (.int (d + r + q))) (some (.bl false)) d r q k f l none) st8 = .nx (RW b i (ownsL d r q i) LK (some (.lst ((rngI 0 n).map .int))) (some (.int (d + r + q))) (some (.bl false)) d r q k f l (some (.int (3 * f + l * (d + r + q) + 1)))) st8 := by
      simp -implicitDefEqProofs only [xSeqS, xAs, xOp, xC, xVs, xV0, xCall, xCons', xNl, bind_ok, xintb, xadd, z0, Int.add_zero, Int.reduceAdd, xmulR wf64, xmulL wl64, eb_ok, xName, st_some, at_nx, List.set_cons_succ, List.set_cons_zero, xIfS, xNotT, xB, xFn, List.append_nil, List.length_cons, List.length_nil, Nat.reduceAdd, Nat.zero_add, if_true, k1, k3, xAsB, Bool.not_true, Bool.false_eq_true, if_false, xNx]
    have step2 : ∀ o13 : Option D, (sSeq (sAs (tName 13) (mOp gAdd (mOp gAdd (mOp gMul (mOp gAdd (mC (.int 3)) (mCall gInt (mCons (mVar 6) mNil))) (mVar 11)) (mOp gMul (mVar 12) (mVar 5))) (mC (.int 1))))
        (sIf (mNotT (mB (mFn 2 (f__law_same 8) [] (mCons (mFn 6 f_kept_copies [] (mCons (mVar 11) (mCons (mVar 12) (mCons (mVar 7) (mCons (mVar 8) (mCons (mVar 9) (mCons (mVar 6) mNil))))))) (mCons (mVar 13) mNil))))) (sRt (mC (.bl false))) sNx)) (RW b i (ownsL d r q i) LK (some (.lst ((rngI 0 n).map .int))) (some (.int (d + r + q))) (some (.bl true)) d r q k f l o13) st8 = .nx (RW b i (ownsL d r q i) LK (some (.lst ((rngI 0 n).map .int))) (some (.int (d + r + q))) (some (.bl true)) d r q k f l (some (.int (4 * f + l * (d + r + q) + 1)))) st8 := fun o13 => by
      simp -implicitDefEqProofs only [xSeqS, xAs, xOp, xC, xVs, xV0, xCall, xCons', xNl, bind_ok, xintb, xadd, z1, Int.reduceAdd, xmulR wf64, xmulL wl64, eb_ok, xName, st_some, at_nx, List.set_cons_succ, List.set_cons_zero, xIfS, xNotT, xB, xFn, List.append_nil, List.length_cons, List.length_nil, Nat.reduceAdd, Nat.zero_add, if_true, k2, k4, xAsB, Bool.not_true, Bool.false_eq_true, if_false, xNx]
    unfold forGo
    rw [show tName 6 (.bl false) (RW b i (ownsL d r q i) LK (some (.lst ((rngI 0 n).map .int))) (some (.int (d + r + q))) none d r q k f l none) st8 = some (RW b i (ownsL d r q i) LK (some (.lst ((rngI 0 n).map .int))) (some (.int (d + r + q))) (some (.bl false)) d r q k f l none, st8) from rfl]
    dsimp only
    rw [step1]
    dsimp only
    unfold forGo
    rw [show tName 6 (.bl true) (RW b i (ownsL d r q i) LK (some (.lst ((rngI 0 n).map .int))) (some (.int (d + r + q))) (some (.bl false)) d r q k f l (some (.int (3 * f + l * (d + r + q) + 1)))) st8 = some (RW b i (ownsL d r q i) LK (some (.lst ((rngI 0 n).map .int))) (some (.int (d + r + q))) (some (.bl true)) d r q k f l (some (.int (3 * f + l * (d + r + q) + 1))), st8) from rfl]
    dsimp only
    rw [step2]
    rfl
  refine ⟨st8, ?_, b8⟩
  have hne : ¬ ((LK.length : Int) ≠ (LK.length : Int)) := fun h => h rfl
  have hne2 : ¬ ((n : Int) ≠ min k (l * ((ownsL d r q i).length : Int))) := fun h => h hcnt
  have hlenR : (((rngI 0 n).map D.int).length : Int) = (n : Int) := by rw [List.length_map, rng_len]
  show ended (m__law_worst [some (.ref b), none, none, none, none, none, none, none, none, none, none, none, none, none, none, none, none, none, none, none] st) = _
  unfold m__law_worst
  simp -implicitDefEqProofs only [xSeqS, xAs, xFn, xCons', xVs, xV0, xC, xNl, bind_ok, List.append_nil, List.length_cons, List.length_nil, if_true, e1, eb_ok, tup3, xTC, xTN, xName, Option.bind_some, st_some, at_nx, List.set_cons_succ, List.set_cons_zero, xTp, xOp, e2, xadd, e3, e4, szMax, Nat.reduceLeDiff, Nat.reduceAdd, Nat.zero_add, ← hk, xPure, xLst, xmulL (show r.natAbs < 2 ^ 64 by omega), e5, e6, e7, xComp, xRng, en, c0, hw, xIfS, xOrT, xNotT, xB, xIsi, ty, hsub, xAsB, Bool.not_true, Bool.false_eq_true, if_false, xCall, xSeq, seqD_tup, c1, all_true LK, xNx, c2, ls, xlen_tup, List.length_map, xne, decide_eq_false hne, c3, a1, rk, c4, xlen_lst, rng_len, xmin, xmulL wl64, decide_eq_false hne2, e8, isn, m3, m1, m2, m4, m5, xFor, loop, xRet, k1, k3, xmulL (show (3 : Int).natAbs < 2 ^ 64 by decide), List.cons_append, List.nil_append, en_rt]
end Kq

namespace Kq
open PySem PySem.Spec Kp
/-! ## what stays while the draws go on -/
structure Gr (b : Nat) (st st' : Sto) : Prop where
  len : st.length ≤ st'.length
  keep : ∀ n c, st[n]? = some c → n ≠ b → st'[n]? = some c
  box : Box st' b
theorem Gr.trans {b : Nat} {s1 s2 s3 : Sto} (h : Gr b s1 s2) (h' : Gr b s2 s3) : Gr b s1 s3 := ⟨Nat.le_trans h.len h'.len, fun n c e hn => h'.keep n c (h.keep n c e hn) hn, h'.box⟩
theorem BoxTo.gr {b : Nat} {s1 s2 : Sto} (h : BoxTo b s1 s2) (hb : Box s1 b) : Gr b s1 s2 := ⟨by rw [h.len]; exact Nat.le_refl _, fun n c e hn => by rw [h.at (Ne.symm hn)]; exact e, h.box hb⟩
theorem gr_app {b : Nat} {st t : Sto} (hb : Box st b) : Gr b st (st ++ t) := ⟨by rw [List.length_append]; omega, fun n c e _ => by rw [List.getElem?_append_left (List.getElem?_eq_some_iff.mp e).1]; exact e, by
  obtain ⟨c, x, y, h⟩ := hb
  exact ⟨c, x, y, by rw [List.getElem?_append_left (List.getElem?_eq_some_iff.mp h).1]; exact h⟩⟩
def tp (xs : List Int) : D := .tup (xs.map .int)
theorem erase_map {α β : Type} (f : α → β) : ∀ (L : List α) (n : Nat), (L.map f).eraseIdx n = (L.eraseIdx n).map f
  | [], _ => rfl
  | _ :: _, 0 => rfl
  | x :: L, n + 1 => by rw [List.map_cons, List.eraseIdx_cons_succ, List.eraseIdx_cons_succ, List.map_cons, erase_map f L n]
theorem pop_is {st : Sto} {m : Nat} {L : List Int} {t : Int} (h : st[m]? = some (.lst (L.map .int))) (h1 : 0 ≤ t) (h2 : t < L.length) (h3 : L.length < 1000) : ∃ z : Int, gPop (.ref m) [.int t] st = .ok (.int z) (st.set m (.lst ((L.eraseIdx t.toNat).map .int))) := by
  have hlt : t.toNat < L.length := by omega
  refine ⟨L[t.toNat], ?_⟩
  have hs : seqIndex? t (L.map D.int).length = some t.toNat := by
    have e : L2.ixN (L.map D.int).length t = some t.toNat := by
      unfold L2.ixN
      rw [List.length_map, if_pos h1, if_pos h2]
    exact (L2.ixN_seq e).1
  have hg : (L.map D.int)[t.toNat]? = some (.int L[t.toNat]) := by rw [List.getElem?_map, List.getElem?_eq_getElem hlt]; rfl
  unfold gPop
  simp only [h, hs, hg]
  rw [if_pos ⟨by omega, by omega⟩, erase_map]
theorem pop_go {b m : Nat} {o1 o2 : Option D} (hbm : b ≠ m) : ∀ (xs : List Int) (L : List Int) (n : Nat) (st : Sto), Box st b → st[m]? = some (.lst (L.map .int)) → xs.length ≤ L.length → L.length < 100 → n + xs.length < 1000 →
    ∃ (ys : List Int) (st' : Sto), compGo (tName 4) mYes (mMtT "list" gPop (mVar 3) (mCons (mFn 2 f__law_take [] (mCons (mVar 0) (mCons (mCall gLen (mCons (mVar 3) mNil)) mNil))) mNil)) [4] [some (.ref b), o1, o2, some (.ref m), none] (xs.map .int) n st = .ok (ys.map .int) st' ∧ ys.length = xs.length ∧ Box st' b ∧ st.length ≤ st'.length ∧ ∀ k c, st[k]? = some c → k ≠ b → k ≠ m → st'[k]? = some c
  | [], L, n, st, hb, h, _, _, _ => ⟨[], st, rfl, rfl, hb, Nat.le_refl _, fun k c e _ _ => e⟩
  | x :: xs, L, n, st, hb, h, hl, hL, hn => by
    rw [List.length_cons] at hl hn
    obtain ⟨t, s1, e1, h1, h2, x1⟩ := take_ok (n := L.length) hb (by omega) (by omega)
    have hm1 : s1[m]? = some (.lst (L.map .int)) := by rw [x1.at hbm]; exact h
    obtain ⟨z, e2⟩ := pop_is hm1 h1 h2 (by omega)
    have hlen : gLen [.ref m] st = .ok (.int L.length) st := by
      have := xlen (seqO_ref h)
      rw [List.length_map] at this
      exact this
    have hb2 : Box (s1.set m (.lst ((L.eraseIdx t.toNat).map .int))) b := by
      obtain ⟨c, u, v, hh⟩ := x1.box hb
      exact ⟨c, u, v, by rw [List.getElem?_set_ne (Ne.symm hbm)]; exact hh⟩
    have hel : (L.eraseIdx t.toNat).length = L.length - 1 := List.length_eraseIdx_of_lt (by omega)
    obtain ⟨ys, st', g1, g0, g2, g3, g4⟩ := pop_go (o1 := o1) (o2 := o2) hbm xs (L.eraseIdx t.toNat) (n + 1) _ hb2 (List.getElem?_set_self (List.getElem?_eq_some_iff.mp hm1).1) (by omega) (by omega) (by omega)
    refine ⟨z :: ys, st', ?_, by rw [List.length_cons, List.length_cons, g0], g2, ?_, fun k c e hk1 hk2 => g4 k c ?_ hk1 hk2⟩
    · have ht : tyOk st "list" (.ref m) = true := by unfold tyOk; simp only [h]; rfl
      have me : mMtT "list" gPop (mVar 3) (mCons (mFn 2 f__law_take [] (mCons (mVar 0) (mCons (mCall gLen (mCons (mVar 3) mNil)) mNil))) mNil) [some (.ref b), o1, o2, some (.ref m), some (.int x)] st = .ok (.int z) (s1.set m (.lst ((L.eraseIdx t.toNat).map .int))) := by
        unfold mMtT
        simp -implicitDefEqProofs only [xVs, xV0, bind_ok, ht, if_true, xCons', xFn, xCall, xNl, hlen, List.append_nil, List.length_cons, List.length_nil, Nat.reduceAdd, Nat.zero_add, e1, e2]
      rw [List.map_cons]
      unfold compGo
      rw [show tName 4 (.int x) (wipeE [some (.ref b), o1, o2, some (.ref m), none] [4]) st = some ([some (.ref b), o1, o2, some (.ref m), some (.int x)], st) from rfl]
      dsimp only
      rw [show mYes [some (.ref b), o1, o2, some (.ref m), some (.int x)] st = .ok true st from rfl, calm_ok, bind_ok, if_pos rfl, me, calm_ok, bind_ok, if_pos (Nat.lt_trans (show n < 1000 by omega) (by decide)), g1, bind_ok, List.map_cons]
    · rw [List.length_set, x1.len] at g3
      exact g3
    · rw [List.getElem?_set_ne (Ne.symm hk2), x1.at (Ne.symm hk1)]
      exact e
theorem part_ok {st : Sto} {b : Nat} {L : List Int} {m : Int} (hb : Box st b) (h1 : 0 ≤ m) (h2 : m ≤ L.length) (h3 : L.length < 100) : ∃ (ys : List Int) (st' : Sto), f__law_part [.ref b, .lst (L.map .int), .int m] st = .ok (tp ys) st' ∧ ys.length ≤ 1000 ∧ Gr b st st' := by
  have hbl : b < st.length := by obtain ⟨_, _, _, h⟩ := hb; exact (List.getElem?_eq_some_iff.mp h).1
  have g0 := gr_app (t := [.lst (L.map .int)]) hb
  obtain ⟨ys, st', g1, g5, g2, g3, g4⟩ := pop_go (b := b) (m := st.length) (o1 := some (.lst (L.map .int))) (o2 := some (.int m)) (by omega) (rngI 0 m.toNat) L 0 (st ++ [.lst (L.map .int)]) g0.box (by rw [List.getElem?_append_right (Nat.le_refl _), Nat.sub_self]; rfl) (by rw [rng_len]; omega) h3 (by rw [rng_len]; omega)
  have hm : rng1 [.int m] (st ++ [.lst (L.map .int)]) = .ok ((rngI 0 m.toNat).map .int) (st ++ [.lst (L.map .int)]) := xrng1 (by omega) (by omega)
  have e1 : gList [.lst (L.map .int)] st = .ok (L.map .int) st := rfl
  have e2 : gSorted [.lst (ys.map .int)] st' = .ok ((sortI ys).map .int) st' := by
    unfold gSorted
    simp only [lstO_lst, Option.bind_some, intsO_map]
  have e3 : gTuple [.lst ((sortI ys).map .int)] st' = .ok (.tup ((sortI ys).map .int)) st' := xtuple rfl
  refine ⟨sortI ys, st', ?_, ?_, ⟨?_, fun n c e hn => g4 n c (g0.keep n c e hn) hn ?_, g2⟩⟩
  · show ended (m__law_part [some (.ref b), some (.lst (L.map .int)), some (.int m), none, none] st) = _
    unfold m__law_part
    simp -implicitDefEqProofs only [xSeqS, xAs, xBox, xCallF, xCons', xVs, xV0, xNl, bind_ok, e1, eb_ok, xName, st_some, at_nx, List.set_cons_succ, List.set_cons_zero, xRet, xCall, xPure, xComp, xRng, hm, g1, e2, e3, en_rt, tp]
  · have := (List.mergeSort_perm ys fun a b => decide (a ≤ b)).length_eq
    show (sortI ys).length ≤ 1000
    unfold sortI
    rw [this, g5, rng_len]
    omega
  · rw [List.length_append] at g3
    omega
  · have := (List.getElem?_eq_some_iff.mp e).1
    omega
/-! ## the loops of the lots -/
abbrev RL (b : Nat) (o1 o2 o3 o4 o5 o6 o7 o8 : Option D) (d r q : Int) : En := [some (.ref b), o1, o2, o3, o4, o5, o6, o7, o8, some (.int d), some (.int r), some (.int q), none, none, none, none]
theorem put_gr {b n : Nat} {st : Sto} {u v : Cell} (hb : Box st b) (h : st[n]? = some u) (hn : b ≠ n) : Box (st.set n v) b := by
  obtain ⟨c, x, y, hh⟩ := hb
  exact ⟨c, x, y, by rw [List.getElem?_set_ne (Ne.symm hn)]; exact hh⟩
theorem course_go {b nC : Nat} {d r q : Int} (hbn : b ≠ nC) : ∀ (xs : List Int) (css : List (List Int)) (o2 : Option D) (st : Sto), Box st b → st[nC]? = some (.lst (css.map tp)) → (∀ x ∈ css, x.length ≤ 1000) → css.length + xs.length < 100 →
    ∃ (css' : List (List Int)) (o2' : Option D) (st' : Sto), forGo (tName 2) (sEx (mMtT "list" gAppend (mVar 1) (mCons (mFn 3 f__law_part [] (mCons (mVar 0) (mCons (mPure (mLr1 (mC (.int 8)))) (mCons (mOp gAdd (mC (.int 1)) (mFn 2 f__law_take [] (mCons (mVar 0) (mCons (mC (.int 7)) mNil)))) mNil)))) mNil))) (xs.map .int) (RL b (some (.ref nC)) o2 none none none none none none d r q) st = .nx (RL b (some (.ref nC)) o2' none none none none none none d r q) st' ∧
      Box st' b ∧ st'[nC]? = some (.lst (css'.map tp)) ∧ (∀ x ∈ css', x.length ≤ 1000) ∧ css'.length = css.length + xs.length
  | [], css, o2, st, hb, h, hx, _ => ⟨css, o2, st, rfl, hb, h, hx, rfl⟩
  | x :: xs, css, o2, st, hb, h, hx, hl => by
    rw [List.length_cons] at hl
    obtain ⟨t, s1, e1, h1, h2, x1⟩ := take_ok (n := 7) hb (by decide) (by decide)
    obtain ⟨ys, s2, e2, h3, x2⟩ := part_ok (L := rngI 0 8) (m := 1 + t) (x1.box hb) (by omega) (by rw [rng_len]; omega) (by rw [rng_len]; decide)
    have hc : s2[nC]? = some (.lst (css.map tp)) := x2.keep _ _ (by rw [x1.at hbn]; exact h) (Ne.symm hbn)
    have e0 : lrng 0 8 st = .ok ((rngI 0 8).map .int) st := by
      unfold lrng
      rw [if_pos ⟨by decide, by decide, by decide, by decide, by decide⟩, rngD_is]
      rfl
    have ap : gAppend (.ref nC) [tp ys] s2 = .ok .non (s2.set nC (.lst (css.map tp ++ [tp ys]))) := app_is hc (Nat.lt_trans (show (css.map tp).length < 1000 by rw [List.length_map]; omega) (by decide))
    have y1 : ∀ (m : M D) ρ st, mLr1 m ρ st = (m ρ st).bind fun d st => (asI d st).bind fun j st => lrng 0 j st := fun _ _ _ => rfl
    have y2 : ∀ (i : Int) st, asI (.int i) st = .ok i st := fun _ _ => rfl
    have ht : tyOk st "list" (.ref nC) = true := by unfold tyOk; simp only [h]; rfl
    obtain ⟨css', o2', st', g1, g2, g3, g4, g5⟩ := course_go (d := d) (r := r) (q := q) hbn xs (css ++ [ys]) (some (.int x)) (s2.set nC (.lst ((css ++ [ys]).map tp))) (put_gr x2.box hc hbn) (List.getElem?_set_self (List.getElem?_eq_some_iff.mp hc).1) (fun z hz => by
      rcases List.mem_append.mp hz with z' | z'
      · exact hx z z'
      · have : z = ys := by simpa using z'
        rw [this]; exact h3) (by rw [List.length_append, List.length_singleton]; omega)
    refine ⟨css', o2', st', ?_, g2, g3, g4, by rw [g5, List.length_append, List.length_singleton, List.length_cons]; omega⟩
    have body : sEx (mMtT "list" gAppend (mVar 1) (mCons (mFn 3 f__law_part [] (mCons (mVar 0) (mCons (mPure (mLr1 (mC (.int 8)))) (mCons (mOp gAdd (mC (.int 1)) (mFn 2 f__law_take [] (mCons (mVar 0) (mCons (mC (.int 7)) mNil)))) mNil)))) mNil)) (RL b (some (.ref nC)) (some (.int x)) none none none none none none d r q) st = .nx (RL b (some (.ref nC)) (some (.int x)) none none none none none none d r q) (s2.set nC (.lst (css.map tp ++ [tp ys]))) := by
      unfold mMtT
      simp -implicitDefEqProofs only [xExS, xVs, xV0, bind_ok, ht, if_true, xCons', xFn, xPure, y1, y2, xC, e0, xOp, xNl, List.append_nil, List.length_cons, List.length_nil, Nat.reduceAdd, Nat.zero_add, e1, xadd, e2, ap, eb_ok]
    rw [List.map_cons]
    unfold forGo
    rw [show tName 2 (.int x) (RL b (some (.ref nC)) o2 none none none none none none d r q) st = some (RL b (some (.ref nC)) (some (.int x)) none none none none none none d r q, st) from rfl]
    dsimp only
    rw [body]
    dsimp only
    rw [List.map_append] at g1
    exact g1
theorem looks_lp {b nC nL : Nat} {d r q : Int} {o2 : Option D} {css : List (List Int)} (hd : 0 ≤ d) (hd2 : d < 10) (hbn : b ≠ nL) (hbC : b ≠ nC) (hCL : nC ≠ nL) (hcl : css.length < 100) : ∀ (xs : List Int) (LK : List Lk) (o4 : Option D) (st : Sto), Box st b → st[nC]? = some (.lst (css.map tp)) → st[nL]? = some (.lst (LK.map pr)) → (∀ p ∈ LK, 0 ≤ p.2 ∧ p.2 < 1000) → LK.length + xs.length < 60 →
    ∃ (LK' : List Lk) (o4' : Option D) (st' : Sto), forGo (tName 4) (sEx (mMtT "list" gAppend (mVar 3) (mCons (mTup (mCons (mFn 2 f__law_take [] (mCons (mVar 0) (mCons (mC (.int 9)) mNil))) (mCons (mFn 2 f__law_take [] (mCons (mVar 0) (mCons (mOp gAdd (mOp gAdd (mCall gLen (mCons (mVar 1) mNil)) (mVar 9)) (mC (.int 2))) mNil))) mNil))) mNil))) (xs.map .int) (RL b (some (.ref nC)) o2 (some (.ref nL)) o4 none none none none d r q) st = .nx (RL b (some (.ref nC)) o2 (some (.ref nL)) o4' none none none none d r q) st' ∧
      Box st' b ∧ st'[nC]? = some (.lst (css.map tp)) ∧ st'[nL]? = some (.lst (LK'.map pr)) ∧ (∀ p ∈ LK', 0 ≤ p.2 ∧ p.2 < 1000) ∧ LK'.length = LK.length + xs.length
  | [], LK, o4, st, hb, hC, h, hx, _ => ⟨LK, o4, st, rfl, hb, hC, h, hx, rfl⟩
  | x :: xs, LK, o4, st, hb, hC, h, hx, hl => by
    rw [List.length_cons] at hl
    obtain ⟨u, s1, e1, h1, h2, x1⟩ := take_ok (n := 9) hb (by decide) (by decide)
    obtain ⟨v, s2, e2, h3, h4, x2⟩ := take_ok (n := (css.length : Int) + d + 2) (x1.box hb) (by omega) (by omega)
    have hC2 : s2[nC]? = some (.lst (css.map tp)) := by rw [x2.at hbC, x1.at hbC]; exact hC
    have hL2 : s2[nL]? = some (.lst (LK.map pr)) := by rw [x2.at hbn, x1.at hbn]; exact h
    have hlen : gLen [.ref nC] s1 = .ok (.int css.length) s1 := by
      have := xlen (seqO_ref (show s1[nC]? = some (.lst (css.map tp)) by rw [x1.at hbC]; exact hC))
      rw [List.length_map] at this
      exact this
    have ap : gAppend (.ref nL) [.tup [.int u, .int v]] s2 = .ok .non (s2.set nL (.lst (LK.map pr ++ [.tup [.int u, .int v]]))) := app_is hL2 (Nat.lt_trans (show (LK.map pr).length < 1000 by rw [List.length_map]; omega) (by decide))
    have ht : tyOk st "list" (.ref nL) = true := by unfold tyOk; simp only [h]; rfl
    obtain ⟨LK', o4', st', g1, g2, g3, g4, g5, g6⟩ := looks_lp (r := r) (q := q) (o2 := o2) hd hd2 hbn hbC hCL hcl xs (LK ++ [(u, v)]) (some (.int x)) (s2.set nL (.lst ((LK ++ [(u, v)]).map pr))) (put_gr (x2.box (x1.box hb)) hL2 hbn) (by rw [List.getElem?_set_ne (Ne.symm hCL)]; exact hC2) (List.getElem?_set_self (List.getElem?_eq_some_iff.mp hL2).1) (fun z hz => by
      rcases List.mem_append.mp hz with z' | z'
      · exact hx z z'
      · have : z = (u, v) := by simpa using z'
        rw [this]
        exact ⟨h3, by omega⟩) (by rw [List.length_append, List.length_singleton]; omega)
    refine ⟨LK', o4', st', ?_, g2, g3, g4, g5, by rw [g6, List.length_append, List.length_singleton, List.length_cons]; omega⟩
    have body : sEx (mMtT "list" gAppend (mVar 3) (mCons (mTup (mCons (mFn 2 f__law_take [] (mCons (mVar 0) (mCons (mC (.int 9)) mNil))) (mCons (mFn 2 f__law_take [] (mCons (mVar 0) (mCons (mOp gAdd (mOp gAdd (mCall gLen (mCons (mVar 1) mNil)) (mVar 9)) (mC (.int 2))) mNil))) mNil))) mNil)) (RL b (some (.ref nC)) o2 (some (.ref nL)) (some (.int x)) none none none none d r q) st = .nx (RL b (some (.ref nC)) o2 (some (.ref nL)) (some (.int x)) none none none none d r q) (s2.set nL (.lst (LK.map pr ++ [.tup [.int u, .int v]]))) := by
      unfold mMtT
      simp -implicitDefEqProofs only [xExS, xVs, xV0, bind_ok, ht, if_true, xCons', xFn, xTp, xC, xOp, xNl, xCall, hlen, List.append_nil, List.length_cons, List.length_nil, Nat.reduceAdd, Nat.zero_add, szMax, Nat.reduceLeDiff, e1, xadd, e2, ap, eb_ok]
    rw [List.map_cons]
    unfold forGo
    rw [show tName 4 (.int x) (RL b (some (.ref nC)) o2 (some (.ref nL)) o4 none none none none d r q) st = some (RL b (some (.ref nC)) o2 (some (.ref nL)) (some (.int x)) none none none none d r q, st) from rfl]
    dsimp only
    rw [body]
    dsimp only
    rw [List.map_append] at g1
    exact g1
end Kq

namespace Kq
open PySem PySem.Spec Kp
def dueF (LK : List Lk) (d r q : Int) (i : Int) (x : Int) : Bool := LK.any fun p => decide (p.1 = x) && hasB d r q p.2 i
def dueL (LK : List Lk) (d r q : Int) (i : Int) (xs : List Int) : List Int := xs.filter (dueF LK d r q i)
def dues (LK : List Lk) (d r q : Int) (j : Nat) : List (List Int) → List D
  | [] => []
  | xs :: rest => tp (dueL LK d r q (j : Int) xs) :: dues LK d r q (j + 1) rest
theorem dues_len (LK : List Lk) (d r q : Int) : ∀ (css : List (List Int)) (j : Nat), (dues LK d r q j css).length = css.length
  | [], _ => rfl
  | _ :: css, j => by rw [dues, List.length_cons, List.length_cons, dues_len LK d r q css]
theorem dues_plain (LK : List Lk) (d r q : Int) : ∀ (css : List (List Int)) (j : Nat), (∀ x ∈ css, x.length ≤ 1000) → ∀ x ∈ dues LK d r q j css, plainD 7 x
  | [], _, _, _, h => by cases h
  | xs :: css, j, hx, x, h => by
    rw [dues] at h
    rcases List.mem_cons.mp h with z | z
    · rw [z]
      refine .inr (.inr ⟨_, rfl, ?_, fun y hy => ?_⟩)
      · rw [List.length_map]
        exact Nat.le_trans (List.length_filter_le _ _) (hx xs List.mem_cons_self)
      · obtain ⟨v, _, rfl⟩ := List.mem_map.mp hy
        exact .inr (.inl ⟨v, rfl⟩)
    · exact dues_plain LK d r q css (j + 1) (fun y hy => hx y (List.mem_cons_of_mem _ hy)) x z
theorem rng_cons (a : Int) (n : Nat) : rngI a (n + 1) = a :: rngI (a + 1) n := by
  rw [Nat.add_comm, rng_add]
  have : rngI a 1 = [a] := by simp [rngI]
  rw [this]
  rfl
section
variable {b nC nL nD : Nat} {d r q : Int} {LK : List Lk} {css : List (List Int)}
theorem lock_is {i n : Nat} {ρ : En} {st st' : Sto} {m : M D} {c c' : Cell} {d : D} (h : ρ[i]? = some (some (.ref n))) (h1 : st[n]? = some c) (h2 : lockable c = true) (h3 : m ρ (st.set n (.lk c)) = .ok d st') (h4 : st'[n]? = some (.lk c')) (h5 : lockable c' = true) : mLock i m ρ st = .ok d (st'.set n c') := by
  unfold mLock
  rw [h]
  dsimp only
  rw [h1]
  dsimp only
  rw [if_pos h2, h3]
  dsimp only
  rw [h4]
  dsimp only
  rw [if_pos h5]
/-- one of the due lists -/
theorem due_step {o4 o6 o7 o8 : Option D} {i : Int} {xs : List Int} {dl : List D} {st : Sto} (hd : 0 ≤ d) (hr : 0 < r) (hr2 : r < 1000) (hq : 0 ≤ q) (h1 : b ≠ nL) (h2 : b ≠ nD) (h3 : nC ≠ nL) (h4 : nC ≠ nD) (h5 : nL ≠ nD) (hb : Box st b) (hC : st[nC]? = some (.lst (css.map tp))) (hL : st[nL]? = some (.lst (LK.map pr))) (hD : st[nD]? = some (.lst dl))
    (hp : ∀ p ∈ LK, 0 ≤ p.2 ∧ p.2 < 1000) (hLl : LK.length ≤ 1000) (hxl : xs.length ≤ 1000) (hdl : dl.length < 1000) (hi : 0 ≤ i) (hx : css[i.toNat]? = some xs) :
    ∃ st', mLock 3 (mMtT "list" gAppend (mVar 5) (mCons (mCall gTuple (mCons (mPure (mComp (mSeq (mOp gIx (mVar 1) (mVar 2))) (tName 12) (mB (mCall gAny (mCons (mPure (mComp (mSeq (mVar 3)) (tTup 2 (tCons (tName 13) (tCons (tName 14) tNil))) mYes (mAnd (mOp gEq (mVar 13) (mVar 12)) (mFn 5 f__law_has [] (mCons (mVar 9) (mCons (mVar 10) (mCons (mVar 11) (mCons (mVar 14) (mCons (mVar 2) mNil))))))) [13, 14])) mNil))) (mVar 12) [12])) mNil)) mNil)) (RL b (some (.ref nC)) (some (.int i)) (some (.ref nL)) o4 (some (.ref nD)) o6 o7 o8 d r q) st = .ok .non st' ∧
      Box st' b ∧ st'[nC]? = some (.lst (css.map tp)) ∧ st'[nL]? = some (.lst (LK.map pr)) ∧ st'[nD]? = some (.lst (dl ++ [tp (dueL LK d r q i xs)])) := by
  obtain ⟨sl, hsl⟩ : ∃ sl, sl = st.set nL (.lk (.lst (LK.map pr))) := ⟨_, rfl⟩
  have lL : sl[nL]? = some (.lk (.lst (LK.map pr))) := by rw [hsl]; exact List.getElem?_set_self (List.getElem?_eq_some_iff.mp hL).1
  have lC : sl[nC]? = some (.lst (css.map tp)) := by rw [hsl, List.getElem?_set_ne (Ne.symm h3)]; exact hC
  have lD : sl[nD]? = some (.lst dl) := by rw [hsl, List.getElem?_set_ne h5]; exact hD
  have lb : Box sl b := by rw [hsl]; exact put_gr hb hL h1
  have e1 : gIx (.ref nC) (.int i) sl = .ok (tp xs) sl := xix (seqO_ref lC) (atI_nat hi (by rw [List.getElem?_map, hx]; rfl))
  have e2 : seqD (.ref nL) sl = .ok (LK.map pr) sl := seqD_ref lL
  have e3 : seqD (tp xs) sl = .ok (xs.map .int) sl := rfl
  have c := compGo_pure (t := tName 12) (tt := mB (mCall gAny (mCons (mPure (mComp (mSeq (mVar 3)) (tTup 2 (tCons (tName 13) (tCons (tName 14) tNil))) mYes (mAnd (mOp gEq (mVar 13) (mVar 12)) (mFn 5 f__law_has [] (mCons (mVar 9) (mCons (mVar 10) (mCons (mVar 11) (mCons (mVar 14) (mCons (mVar 2) mNil))))))) [13, 14])) mNil))) (me := mVar 12) (vs := [12]) (ρ := RL b (some (.ref nC)) (some (.int i)) (some (.ref nL)) o4 (some (.ref nD)) o6 o7 o8 d r q) (st := sl) D.int (dueF LK d r q i) D.int xs 0 (by rw [Nat.zero_add]; exact Nat.le_trans hxl (by decide)) fun x _ => by
    refine ⟨[some (.ref b), some (.ref nC), some (.int i), some (.ref nL), o4, some (.ref nD), o6, o7, o8, some (.int d), some (.int r), some (.int q), some (.int x), none, none, none], rfl, ?_, fun _ => rfl⟩
    have c2 := compGo_map (t := tTup 2 (tCons (tName 13) (tCons (tName 14) tNil))) (me := mAnd (mOp gEq (mVar 13) (mVar 12)) (mFn 5 f__law_has [] (mCons (mVar 9) (mCons (mVar 10) (mCons (mVar 11) (mCons (mVar 14) (mCons (mVar 2) mNil))))))) (vs := [13, 14]) (ρ := [some (.ref b), some (.ref nC), some (.int i), some (.ref nL), o4, some (.ref nD), o6, o7, o8, some (.int d), some (.int r), some (.int q), some (.int x), none, none, none]) (st := sl) pr (fun p => .bl (decide (p.1 = x) && hasB d r q p.2 i)) LK (Nat.le_trans hLl (by decide)) fun p hpm => by
      refine ⟨[some (.ref b), some (.ref nC), some (.int i), some (.ref nL), o4, some (.ref nD), o6, o7, o8, some (.int d), some (.int r), some (.int q), some (.int x), some (.int p.1), some (.int p.2), none], rfl, ?_⟩
      obtain ⟨g3, g4⟩ := hp p hpm
      have hh := has_is (st := sl) (i := i) (own := p.2) hd hr hr2 hq g3 g4
      by_cases z : p.1 = x
      · simp -implicitDefEqProofs only [xAnd, xB, xOp, xVs, xV0, bind_ok, xeq, decide_eq_true z, xAsB, if_true, xFn, xCons', xNl, List.append_nil, List.length_cons, List.length_nil, Nat.reduceAdd, Nat.zero_add, hh, Bool.true_and]
      · simp -implicitDefEqProofs only [xAnd, xB, xOp, xVs, xV0, bind_ok, xeq, decide_eq_false z, xAsB, Bool.false_eq_true, if_false, Bool.false_and]
    simp -implicitDefEqProofs only [xB, xCall, xCons', xPure, xComp, xSeq, xVs, xV0, bind_ok, e2, c2, xNl, any_is, xAsB]
    rfl
  have e4 : gTuple [.lst (((xs.filter (dueF LK d r q i))).map .int)] sl = .ok (tp (dueL LK d r q i xs)) sl := xtuple rfl
  have ap : gAppend (.ref nD) [tp (dueL LK d r q i xs)] sl = .ok .non (sl.set nD (.lst (dl ++ [tp (dueL LK d r q i xs)]))) := app_is lD (Nat.lt_trans hdl (by decide))
  have ht : tyOk sl "list" (.ref nD) = true := by unfold tyOk; simp only [lD]; rfl
  have body : mMtT "list" gAppend (mVar 5) (mCons (mCall gTuple (mCons (mPure (mComp (mSeq (mOp gIx (mVar 1) (mVar 2))) (tName 12) (mB (mCall gAny (mCons (mPure (mComp (mSeq (mVar 3)) (tTup 2 (tCons (tName 13) (tCons (tName 14) tNil))) mYes (mAnd (mOp gEq (mVar 13) (mVar 12)) (mFn 5 f__law_has [] (mCons (mVar 9) (mCons (mVar 10) (mCons (mVar 11) (mCons (mVar 14) (mCons (mVar 2) mNil))))))) [13, 14])) mNil))) (mVar 12) [12])) mNil)) mNil) (RL b (some (.ref nC)) (some (.int i)) (some (.ref nL)) o4 (some (.ref nD)) o6 o7 o8 d r q) sl = .ok .non (sl.set nD (.lst (dl ++ [tp (dueL LK d r q i xs)]))) := by
    unfold mMtT
    simp -implicitDefEqProofs only [xVs, xV0, bind_ok, ht, if_true, xCons', xNl, xCall, xPure, xComp, xSeq, xOp, e1, e3, c, e4, ap]
  have hL3 : (sl.set nD (.lst (dl ++ [tp (dueL LK d r q i xs)])))[nL]? = some (.lk (.lst (LK.map pr))) := by rw [List.getElem?_set_ne (Ne.symm h5)]; exact lL
  refine ⟨(sl.set nD (.lst (dl ++ [tp (dueL LK d r q i xs)]))).set nL (.lst (LK.map pr)), ?_, put_gr (put_gr lb lD h2) hL3 h1, ?_, ?_, ?_⟩
  · exact lock_is (c := .lst (LK.map pr)) (c' := .lst (LK.map pr)) rfl hL rfl (by rw [← hsl]; exact body) hL3 rfl
  · rw [List.getElem?_set_ne (Ne.symm h3), List.getElem?_set_ne (Ne.symm h4)]
    exact lC
  · exact List.getElem?_set_self (List.getElem?_eq_some_iff.mp hL3).1
  · rw [List.getElem?_set_ne h5]
    exact List.getElem?_set_self (List.getElem?_eq_some_iff.mp lD).1
theorem due_go {o4 o6 o7 o8 : Option D} (hd : 0 ≤ d) (hr : 0 < r) (hr2 : r < 1000) (hq : 0 ≤ q) (h1 : b ≠ nL) (h2 : b ≠ nD) (h3 : nC ≠ nL) (h4 : nC ≠ nD) (h5 : nL ≠ nD) (hp : ∀ p ∈ LK, 0 ≤ p.2 ∧ p.2 < 1000) (hLl : LK.length ≤ 1000) (hcl : css.length < 100) (hxl : ∀ x ∈ css, x.length ≤ 1000) :
    ∀ (rest pre : List (List Int)) (o2 : Option D) (dl : List D) (st : Sto), css = pre ++ rest → dl.length = pre.length → Box st b → st[nC]? = some (.lst (css.map tp)) → st[nL]? = some (.lst (LK.map pr)) → st[nD]? = some (.lst dl) →
    ∃ (o2' : Option D) (st' : Sto), forGo (tName 2) (sEx (mLock 3 (mMtT "list" gAppend (mVar 5) (mCons (mCall gTuple (mCons (mPure (mComp (mSeq (mOp gIx (mVar 1) (mVar 2))) (tName 12) (mB (mCall gAny (mCons (mPure (mComp (mSeq (mVar 3)) (tTup 2 (tCons (tName 13) (tCons (tName 14) tNil))) mYes (mAnd (mOp gEq (mVar 13) (mVar 12)) (mFn 5 f__law_has [] (mCons (mVar 9) (mCons (mVar 10) (mCons (mVar 11) (mCons (mVar 14) (mCons (mVar 2) mNil))))))) [13, 14])) mNil))) (mVar 12) [12])) mNil)) mNil)))) ((rngI (pre.length : Int) rest.length).map .int) (RL b (some (.ref nC)) o2 (some (.ref nL)) o4 (some (.ref nD)) o6 o7 o8 d r q) st = .nx (RL b (some (.ref nC)) o2' (some (.ref nL)) o4 (some (.ref nD)) o6 o7 o8 d r q) st' ∧
      Box st' b ∧ st'[nC]? = some (.lst (css.map tp)) ∧ st'[nL]? = some (.lst (LK.map pr)) ∧ st'[nD]? = some (.lst (dl ++ dues LK d r q pre.length rest))
  | [], pre, o2, dl, st, _, _, hb, hC, hL, hD => ⟨o2, st, rfl, hb, hC, hL, by rw [dues, List.append_nil]; exact hD⟩
  | xs :: rest, pre, o2, dl, st, hcss, hdl, hb, hC, hL, hD => by
    have hx : css[((pre.length : Nat) : Int).toNat]? = some xs := by
      rw [hcss, Int.toNat_natCast, List.getElem?_append_right (Nat.le_refl _), Nat.sub_self]
      rfl
    have hpl : pre.length < 100 := by
      have := congrArg List.length hcss
      rw [List.length_append] at this
      omega
    obtain ⟨s1, e1, g1, g2, g3, g4⟩ := due_step (o4 := o4) (o6 := o6) (o7 := o7) (o8 := o8) (i := (pre.length : Nat)) hd hr hr2 hq h1 h2 h3 h4 h5 hb hC hL hD hp hLl (hxl xs (by rw [hcss]; exact List.mem_append_right _ List.mem_cons_self)) (by omega) (by omega) hx
    obtain ⟨o2', st', f1, f2, f3, f4, f5⟩ := due_go (o4 := o4) (o6 := o6) (o7 := o7) (o8 := o8) hd hr hr2 hq h1 h2 h3 h4 h5 hp hLl hcl hxl rest (pre ++ [xs]) (some (.int (pre.length : Nat))) _ s1 (by rw [hcss, List.append_assoc]; rfl) (by rw [List.length_append, List.length_append, hdl]; rfl) g1 g2 g3 g4
    rw [List.length_append, List.length_singleton] at f1 f5
    refine ⟨o2', st', ?_, f2, f3, f4, by rw [f5, dues, List.append_assoc]; rfl⟩
    rw [List.length_cons, rng_cons, List.map_cons]
    unfold forGo
    rw [show tName 2 (.int ((pre.length : Nat) : Int)) (RL b (some (.ref nC)) o2 (some (.ref nL)) o4 (some (.ref nD)) o6 o7 o8 d r q) st = some (RL b (some (.ref nC)) (some (.int ((pre.length : Nat) : Int))) (some (.ref nL)) o4 (some (.ref nD)) o6 o7 o8 d r q, st) from rfl]
    dsimp only
    rw [xExS, e1, eb_ok]
    dsimp only
    exact f1
end
end Kq

namespace Kq
open PySem PySem.Spec Kp
abbrev CL (css : List (List Int)) (LK : List Lk) (d r q : Int) (nF : Nat) (o6 o7 : Option D) : En := [some (.tup (css.map tp)), some (.int d), some (.int r), some (.int q), some (.tup (LK.map pr)), some (.ref nF), o6, o7, none, none, none]
abbrev clB : MS := sEx (mMtT "list" gAppend (mVar 5) (mCons (mCall gTuple (mCons (mPure (mComp (mSeq (mVar 7)) (tName 8) (mB (mCall gAny (mCons (mPure (mComp (mSeq (mVar 4)) (tTup 2 (tCons (tName 9) (tCons (tName 10) tNil))) mYes (mAnd (mOp gEq (mVar 9) (mVar 8)) (mFn 5 f_counts_at [] (mCons (mVar 1) (mCons (mVar 2) (mCons (mVar 3) (mCons (mVar 10) (mCons (mVar 6) mNil))))))) [9, 10])) mNil))) (mVar 8) [8])) mNil)) mNil))
section
variable {d r q : Int} {LK : List Lk} {css : List (List Int)} {nF : Nat}
theorem cl_step {j : Nat} {xs : List Int} {dl : List D} {st : Sto} (hd : 0 ≤ d) (hr : 0 < r) (hr2 : r < 1000) (hq : 0 ≤ q) (hF : st[nF]? = some (.lst dl)) (hp : ∀ p ∈ LK, 0 ≤ p.2 ∧ p.2 < 1000) (hLl : LK.length ≤ 1000) (hxl : xs.length ≤ 1000) (hdl : dl.length < 1000) :
    clB (CL css LK d r q nF (some (.int (j : Nat))) (some (tp xs))) st = .nx (CL css LK d r q nF (some (.int (j : Nat))) (some (tp xs))) (st.set nF (.lst (dl ++ [tp (dueL LK d r q (j : Nat) xs)]))) := by
  have e3 : seqD (tp xs) st = .ok (xs.map .int) st := rfl
  have c := compGo_pure (t := tName 8) (tt := mB (mCall gAny (mCons (mPure (mComp (mSeq (mVar 4)) (tTup 2 (tCons (tName 9) (tCons (tName 10) tNil))) mYes (mAnd (mOp gEq (mVar 9) (mVar 8)) (mFn 5 f_counts_at [] (mCons (mVar 1) (mCons (mVar 2) (mCons (mVar 3) (mCons (mVar 10) (mCons (mVar 6) mNil))))))) [9, 10])) mNil))) (me := mVar 8) (vs := [8]) (ρ := CL css LK d r q nF (some (.int (j : Nat))) (some (tp xs))) (st := st) D.int (dueF LK d r q (j : Nat)) D.int xs 0 (by rw [Nat.zero_add]; exact Nat.le_trans hxl (by decide)) fun x _ => by
    refine ⟨[some (.tup (css.map tp)), some (.int d), some (.int r), some (.int q), some (.tup (LK.map pr)), some (.ref nF), some (.int (j : Nat)), some (tp xs), some (.int x), none, none], rfl, ?_, fun _ => rfl⟩
    have c2 := compGo_map (t := tTup 2 (tCons (tName 9) (tCons (tName 10) tNil))) (me := mAnd (mOp gEq (mVar 9) (mVar 8)) (mFn 5 f_counts_at [] (mCons (mVar 1) (mCons (mVar 2) (mCons (mVar 3) (mCons (mVar 10) (mCons (mVar 6) mNil))))))) (vs := [9, 10]) (ρ := [some (.tup (css.map tp)), some (.int d), some (.int r), some (.int q), some (.tup (LK.map pr)), some (.ref nF), some (.int (j : Nat)), some (tp xs), some (.int x), none, none]) (st := st) pr (fun p => .bl (decide (p.1 = x) && hasB d r q p.2 (j : Nat))) LK (Nat.le_trans hLl (by decide)) fun p hpm => by
      refine ⟨[some (.tup (css.map tp)), some (.int d), some (.int r), some (.int q), some (.tup (LK.map pr)), some (.ref nF), some (.int (j : Nat)), some (tp xs), some (.int x), some (.int p.1), some (.int p.2)], rfl, ?_⟩
      obtain ⟨g3, g4⟩ := hp p hpm
      have hh := counts_is (st := st) (d := d) (r := r) (q := q) (i := (j : Nat)) (own := p.2) hr (by omega)
      rw [← has_cnt hd hr hq g3 (show (0 : Int) ≤ (j : Nat) by omega)] at hh
      by_cases z : p.1 = x
      · simp -implicitDefEqProofs only [xAnd, xB, xOp, xVs, xV0, bind_ok, xeq, decide_eq_true z, xAsB, if_true, xFn, xCons', xNl, List.append_nil, List.length_cons, List.length_nil, Nat.reduceAdd, Nat.zero_add, hh, Bool.true_and]
      · simp -implicitDefEqProofs only [xAnd, xB, xOp, xVs, xV0, bind_ok, xeq, decide_eq_false z, xAsB, Bool.false_eq_true, if_false, Bool.false_and]
    simp -implicitDefEqProofs only [xB, xCall, xCons', xPure, xComp, xSeq, xVs, xV0, bind_ok, seqD_tup, c2, xNl, any_is, xAsB]
    rfl
  have e4 : gTuple [.lst (((xs.filter (dueF LK d r q (j : Nat)))).map .int)] st = .ok (tp (dueL LK d r q (j : Nat) xs)) st := xtuple rfl
  have ap : gAppend (.ref nF) [tp (dueL LK d r q (j : Nat) xs)] st = .ok .non (st.set nF (.lst (dl ++ [tp (dueL LK d r q (j : Nat) xs)]))) := app_is hF (Nat.lt_trans hdl (by decide))
  have ht : tyOk st "list" (.ref nF) = true := by unfold tyOk; simp only [hF]; rfl
  show sEx (mMtT "list" gAppend (mVar 5) _) _ _ = _
  rw [xExS]
  unfold mMtT
  simp -implicitDefEqProofs only [xVs, xV0, bind_ok, ht, if_true, xCons', xNl, xCall, xPure, xComp, xSeq, e3, c, e4, ap, eb_ok]
theorem cl_go (hd : 0 ≤ d) (hr : 0 < r) (hr2 : r < 1000) (hq : 0 ≤ q) (hp : ∀ p ∈ LK, 0 ≤ p.2 ∧ p.2 < 1000) (hLl : LK.length ≤ 1000) : ∀ (rest : List (List Int)) (j : Nat) (o6 o7 : Option D) (dl : List D) (st : Sto), st[nF]? = some (.lst dl) → (∀ x ∈ rest, x.length ≤ 1000) → dl.length + rest.length < 1000 →
    ∃ (o6' o7' : Option D), forGo (tTup 2 (tCons (tName 6) (tCons (tName 7) tNil))) clB (enD j (rest.map tp)) (CL css LK d r q nF o6 o7) st = .nx (CL css LK d r q nF o6' o7') (st.set nF (.lst (dl ++ dues LK d r q j rest)))
  | [], j, o6, o7, dl, st, hF, _, _ => ⟨o6, o7, by
    rw [dues, List.append_nil]
    have : st.set nF (.lst dl) = st := by
      obtain ⟨hl, e⟩ := List.getElem?_eq_some_iff.mp hF
      rw [← e, List.set_getElem_self]
    rw [this]
    rfl⟩
  | xs :: rest, j, o6, o7, dl, st, hF, hx, hl => by
    rw [List.length_cons] at hl
    have hlt := (List.getElem?_eq_some_iff.mp hF).1
    obtain ⟨o6', o7', g⟩ := cl_go hd hr hr2 hq hp hLl rest (j + 1) (some (.int (j : Nat))) (some (tp xs)) (dl ++ [tp (dueL LK d r q (j : Nat) xs)]) (st.set nF (.lst (dl ++ [tp (dueL LK d r q (j : Nat) xs)]))) (List.getElem?_set_self hlt) (fun x h => hx x (List.mem_cons_of_mem _ h)) (by rw [List.length_append, List.length_singleton]; omega)
    refine ⟨o6', o7', ?_⟩
    rw [List.map_cons, enD]
    unfold forGo
    rw [show tTup 2 (tCons (tName 6) (tCons (tName 7) tNil)) (.tup [.int (j : Nat), tp xs]) (CL css LK d r q nF o6 o7) st = some (CL css LK d r q nF (some (.int (j : Nat))) (some (tp xs)), st) from rfl]
    dsimp only
    rw [cl_step hd hr hr2 hq hF hp hLl (hx xs List.mem_cons_self) (by omega)]
    dsimp only
    rw [g, List.set_set, dues, List.append_assoc]
    rfl
theorem counted_is {st : Sto} (hd : 0 ≤ d) (hr : 0 < r) (hr2 : r < 1000) (hq : 0 ≤ q) (hp : ∀ p ∈ LK, 0 ≤ p.2 ∧ p.2 < 1000) (hLl : LK.length ≤ 1000) (hx : ∀ x ∈ css, x.length ≤ 1000) (hl : css.length < 1000) :
    f_counted_long [.tup (css.map tp), .int d, .int r, .int q, .tup (LK.map pr)] st = .ok (.tup (dues LK d r q 0 css)) ((st ++ [Cell.lst []]).set st.length (.lst (dues LK d r q 0 css))) := by
  have hF : (st ++ [Cell.lst []])[st.length]? = some (.lst []) := by rw [List.getElem?_append_right (Nat.le_refl _), Nat.sub_self]; rfl
  obtain ⟨o6, o7, g⟩ := cl_go (css := css) (nF := st.length) hd hr hr2 hq hp hLl css 0 none none [] _ hF hx (by simpa using hl)
  rw [List.nil_append] at g
  have t : gTuple [.ref st.length] ((st ++ [Cell.lst []]).set st.length (.lst (dues LK d r q 0 css))) = .ok (.tup (dues LK d r q 0 css)) ((st ++ [Cell.lst []]).set st.length (.lst (dues LK d r q 0 css))) := xtuple (seqO_ref (List.getElem?_set_self (List.getElem?_eq_some_iff.mp hF).1))
  show ended (m_counted_long [some (.tup (css.map tp)), some (.int d), some (.int r), some (.int q), some (.tup (LK.map pr)), none, none, none, none, none, none] st) = _
  unfold m_counted_long
  simp -implicitDefEqProofs only [xSeqS, xAs, xBox, xLst, xNl, bind_ok, List.length_nil, Nat.zero_le, if_true, eb_ok, xName, st_some, at_nx, List.set_cons_succ, List.set_cons_zero, xFor, xEnum, xVs, xV0, seqD_tup]
  rw [g]
  simp -implicitDefEqProofs only [at_nx, xRet, xCall, xCons', xVs, xV0, xNl, bind_ok, t, eb_ok, en_rt]
end
theorem uniq_le : ∀ (xs : List (List Int)), (uniq xs).length ≤ xs.length
  | [] => Nat.le_refl _
  | x :: xs => by
    unfold uniq
    have := uniq_le xs
    split <;> rw [List.length_cons] <;> first | omega | (rw [List.length_cons]; omega)
theorem uniq_nd_of : ∀ {xs : List (List Int)}, (uniq xs).length = xs.length → xs.Nodup
  | [], _ => List.nodup_nil
  | x :: xs, h => by
    have h1 := uniq_le xs
    unfold uniq at h
    split at h
    · rw [List.length_cons] at h; omega
    · rename_i hx
      rw [List.length_cons, List.length_cons] at h
      exact List.nodup_cons.mpr ⟨hx, uniq_nd_of (by omega)⟩
theorem nd_of_pairs {LK : List Lk} (h : (LK.map fun p => [p.1, p.2]).Nodup) : LK.Nodup := List.Pairwise.imp (fun {x y} h e => h (by rw [e])) (List.pairwise_map.mp h)
end Kq

namespace Kq
open PySem PySem.Spec Kp
theorem set_back {st : Sto} {n : Nat} {u v : Cell} (h : st[n]? = some u) : (st.set n v).set n u = st := by
  obtain ⟨hl, e⟩ := List.getElem?_eq_some_iff.mp h
  rw [List.set_set, ← e, List.set_getElem_self]
theorem most_lock {b nC nL nD : Nat} {o2 o4 : Option D} {d r q l : Int} {LK : List Lk} {st : Sto} (hL : st[nL]? = some (.lst (LK.map pr))) (hl : LK.length < 60) : ∃ M : Int, (∀ p ∈ LK, ((at_ LK p.2).length : Int) ≤ M) ∧ (M = 0 ∨ ∃ p ∈ LK, M = (at_ LK p.2).length) ∧ 0 ≤ M ∧
    mLock 3 (mCall gMax (mCons (mOp gAdd (mPure (mLst (mCons (mC (.int 0)) mNil))) (mPure (mComp (mSeq (mVar 3)) (tTup 2 (tCons (tName 13) (tCons (tName 14) tNil))) mYes (mCall gLen (mCons (mPure (mComp (mSeq (mVar 3)) (tTup 2 (tCons (tName 12) (tCons (tName 15) tNil))) (mB (mOp gEq (mVar 15) (mVar 14))) (mC (.int 1)) [12, 15])) mNil)) [13, 14]))) mNil)) (RL b (some (.ref nC)) o2 (some (.ref nL)) o4 (some (.ref nD)) (some (.int l)) none none d r q) st = .ok (.int M) st := by
  obtain ⟨sl, hsl⟩ : ∃ sl, sl = st.set nL (.lk (.lst (LK.map pr))) := ⟨_, rfl⟩
  have lL : sl[nL]? = some (.lk (.lst (LK.map pr))) := by rw [hsl]; exact List.getElem?_set_self (List.getElem?_eq_some_iff.mp hL).1
  have e2 : seqD (.ref nL) sl = .ok (LK.map pr) sl := seqD_ref lL
  have hz : LK.length ≤ szMax := Nat.le_trans (Nat.le_of_lt hl) (by decide)
  have c := compGo_map (t := tTup 2 (tCons (tName 13) (tCons (tName 14) tNil))) (me := mCall gLen (mCons (mPure (mComp (mSeq (mVar 3)) (tTup 2 (tCons (tName 12) (tCons (tName 15) tNil))) (mB (mOp gEq (mVar 15) (mVar 14))) (mC (.int 1)) [12, 15])) mNil)) (vs := [13, 14]) (ρ := RL b (some (.ref nC)) o2 (some (.ref nL)) o4 (some (.ref nD)) (some (.int l)) none none d r q) (st := sl) pr (fun p => .int ((at_ LK p.2).length : Nat)) LK hz fun p _ => by
    refine ⟨[some (.ref b), some (.ref nC), o2, some (.ref nL), o4, some (.ref nD), some (.int l), none, none, some (.int d), some (.int r), some (.int q), none, some (.int p.1), some (.int p.2), none], rfl, ?_⟩
    have c2 := compGo_pure (t := tTup 2 (tCons (tName 12) (tCons (tName 15) tNil))) (tt := mB (mOp gEq (mVar 15) (mVar 14))) (me := mC (.int 1)) (vs := [12, 15]) (ρ := [some (.ref b), some (.ref nC), o2, some (.ref nL), o4, some (.ref nD), some (.int l), none, none, some (.int d), some (.int r), some (.int q), none, some (.int p.1), some (.int p.2), none]) (st := sl) pr (fun z => decide (z.2 = p.2)) (fun _ => .int 1) LK 0 (by rw [Nat.zero_add]; exact hz) fun z _ =>
      ⟨[some (.ref b), some (.ref nC), o2, some (.ref nL), o4, some (.ref nD), some (.int l), none, none, some (.int d), some (.int r), some (.int q), some (.int z.1), some (.int p.1), some (.int p.2), some (.int z.2)], rfl, by
        simp -implicitDefEqProofs only [xB, xOp, xVs, xV0, bind_ok, xeq, xAsB], fun _ => rfl⟩
    simp -implicitDefEqProofs only [xCall, xCons', xPure, xComp, xSeq, xVs, xV0, bind_ok, e2, c2, xNl, xlen_lst, List.length_map]
    rfl
  obtain ⟨g1, g2⟩ := maxF_spec (LK.map fun p => ((at_ LK p.2).length : Int)) 0
  have g3 : gMax [.lst ((0 :: LK.map fun p => ((at_ LK p.2).length : Int)).map .int)] sl = .ok (.int (maxF 0 (LK.map fun p => ((at_ LK p.2).length : Int)))) sl := xmaxL g1 g2
  have g4 : gAdd (.lst [.int 0]) (.lst (LK.map fun p => .int ((at_ LK p.2).length : Nat))) sl = .ok (.lst ((0 :: LK.map fun p => ((at_ LK p.2).length : Int)).map .int)) sl := by
    show (if [D.int 0].length + (LK.map fun p => D.int ((at_ LK p.2).length : Nat)).length ≤ szMax then Res.ok (D.lst ([D.int 0] ++ LK.map fun p => D.int ((at_ LK p.2).length : Nat))) sl else .no) = _
    rw [if_pos (by rw [List.length_map, List.length_singleton]; exact Nat.le_trans (show 1 + LK.length ≤ 100 by omega) (by decide)), List.map_cons, List.map_map]
    rfl
  refine ⟨maxF 0 (LK.map fun p => ((at_ LK p.2).length : Int)), fun p hp => g2 _ (List.mem_cons_of_mem _ (List.mem_map.mpr ⟨p, hp, rfl⟩)), ?_, g2 0 List.mem_cons_self, ?_⟩
  · rcases List.mem_cons.mp g1 with z | z
    · exact .inl z
    · obtain ⟨p, hp, e⟩ := List.mem_map.mp z
      exact .inr ⟨p, hp, e.symm⟩
  · have body : mCall gMax (mCons (mOp gAdd (mPure (mLst (mCons (mC (.int 0)) mNil))) (mPure (mComp (mSeq (mVar 3)) (tTup 2 (tCons (tName 13) (tCons (tName 14) tNil))) mYes (mCall gLen (mCons (mPure (mComp (mSeq (mVar 3)) (tTup 2 (tCons (tName 12) (tCons (tName 15) tNil))) (mB (mOp gEq (mVar 15) (mVar 14))) (mC (.int 1)) [12, 15])) mNil)) [13, 14]))) mNil) (RL b (some (.ref nC)) o2 (some (.ref nL)) o4 (some (.ref nD)) (some (.int l)) none none d r q) sl = .ok (.int (maxF 0 (LK.map fun p => ((at_ LK p.2).length : Int)))) sl := by
      simp -implicitDefEqProofs only [xCall, xCons', xOp, xPure, xLst, xC, xNl, bind_ok, List.length_cons, List.length_nil, Nat.reduceAdd, Nat.zero_add, szMax, Nat.reduceLeDiff, if_true, xComp, xSeq, xVs, xV0, e2, c, g4, g3]
    have := lock_is (i := 3) (n := nL) (ρ := RL b (some (.ref nC)) o2 (some (.ref nL)) o4 (some (.ref nD)) (some (.int l)) none none d r q) (c := .lst (LK.map pr)) (c' := .lst (LK.map pr)) rfl hL rfl (by rw [← hsl]; exact body) lL rfl
    rw [this, hsl, set_back hL]
theorem lots_ok {st : Sto} {b : Nat} (hb : Box st b) : ∃ st', f__law_lots [.ref b] st = .ok (.bl true) st' ∧ Box st' b := by
  obtain ⟨d, r, q, s1, e1, hd, hd2, hr, hr2, hq, hq2, x1⟩ := numbers_ok hb
  have b1 := x1.box hb
  have hlt : ∀ {s : Sto}, Box s b → b < s.length := fun {s} h => by obtain ⟨_, _, _, h⟩ := h; exact (List.getElem?_eq_some_iff.mp h).1
  have hbC : b ≠ s1.length := Nat.ne_of_lt (hlt b1)
  obtain ⟨t1, s2, e2, ht1, ht1', x2⟩ := take_ok (n := 12) (gr_app (t := [.lst []]) b1).box (by decide) (by decide)
  have c2 : s2[s1.length]? = some (.lst (([] : List (List Int)).map tp)) := by
    rw [x2.at hbC, List.getElem?_append_right (Nat.le_refl _), Nat.sub_self]
    rfl
  have r1 : rng1 [.int (1 + t1)] s2 = .ok ((rngI 0 (1 + t1).toNat).map .int) s2 := xrng1 (by omega) (by omega)
  obtain ⟨css, o2, s3, e3, b3, c3, hx3, hl3⟩ := course_go (d := d) (r := r) (q := q) hbC (rngI 0 (1 + t1).toNat) [] none s2 (x2.box (gr_app (t := [.lst []]) b1).box) c2 (fun x h => by cases h) (by rw [rng_len]; simp; omega)
  rw [rng_len, List.length_nil, Nat.zero_add] at hl3
  have hbL : b ≠ s3.length := Nat.ne_of_lt (hlt b3)
  have hCL : s1.length ≠ s3.length := Nat.ne_of_lt (List.getElem?_eq_some_iff.mp c3).1
  have G4 := gr_app (t := [.lst []]) b3
  obtain ⟨t2, s5, e5, ht2, ht2', x5⟩ := take_ok (n := 12) G4.box (by decide) (by decide)
  have c5 : s5[s1.length]? = some (.lst (css.map tp)) := by rw [x5.at hbC]; exact G4.keep _ _ c3 (Ne.symm hbC)
  have l5 : s5[s3.length]? = some (.lst (([] : List Lk).map pr)) := by
    rw [x5.at hbL, List.getElem?_append_right (Nat.le_refl _), Nat.sub_self]
    rfl
  have r2 : rng1 [.int t2] s5 = .ok ((rngI 0 t2.toNat).map .int) s5 := xrng1 (by omega) (by omega)
  obtain ⟨LK, o4, s6, e6, b6, c6, l6, hp, hLl⟩ := looks_lp (r := r) (q := q) (o2 := o2) hd hd2 hbL hbC hCL (show css.length < 100 by omega) (rngI 0 t2.toNat) [] none s5 (x5.box G4.box) c5 l5 (fun p h => by cases h) (by rw [rng_len]; simp; omega)
  rw [rng_len, List.length_nil, Nat.zero_add] at hLl
  have hbD : b ≠ s6.length := Nat.ne_of_lt (hlt b6)
  have hCD : s1.length ≠ s6.length := Nat.ne_of_lt (List.getElem?_eq_some_iff.mp c6).1
  have hLD : s3.length ≠ s6.length := Nat.ne_of_lt (List.getElem?_eq_some_iff.mp l6).1
  have G7 := gr_app (t := [.lst []]) b6
  have c7 := G7.keep _ _ c6 (Ne.symm hbC)
  have l7 := G7.keep _ _ l6 (Ne.symm hbL)
  have d7 : (s6 ++ [Cell.lst []])[s6.length]? = some (.lst []) := by rw [List.getElem?_append_right (Nat.le_refl _), Nat.sub_self]; rfl
  have n7 : gLen [.ref s1.length] (s6 ++ [Cell.lst []]) = .ok (.int css.length) (s6 ++ [Cell.lst []]) := by
    have := xlen (seqO_ref c7)
    rw [List.length_map] at this
    exact this
  have r3 : rng1 [.int (css.length : Nat)] (s6 ++ [Cell.lst []]) = .ok ((rngI 0 css.length).map .int) (s6 ++ [Cell.lst []]) := xrng1 (by omega) (by omega)
  obtain ⟨o2', s8, e8, b8, c8, l8, d8⟩ := due_go (o4 := o4) (o6 := none) (o7 := none) (o8 := none) (q := q) hd (show 0 < r by omega) (by omega) hq hbL hbD hCL hCD hLD hp (by omega) (by omega) hx3 css [] o2 [] _ rfl rfl G7.box c7 l7 d7
  rw [List.nil_append] at d8
  rw [show (((([] : List (List Int)).length : Nat)) : Int) = 0 from rfl] at e8
  have tC : gTuple [.ref s1.length] s8 = .ok (.tup (css.map tp)) s8 := xtuple (seqO_ref c8)
  have tL : gTuple [.ref s3.length] s8 = .ok (.tup (LK.map pr)) s8 := xtuple (seqO_ref l8)
  have cl := counted_is (st := s8) (css := css) hd (show 0 < r by omega) (by omega) hq hp (by omega) hx3 (by omega)
  obtain ⟨s9, hs9⟩ : ∃ s9, s9 = (s8 ++ [Cell.lst []]).set s8.length (.lst (dues LK d r q 0 css)) := ⟨_, rfl⟩
  rw [← hs9] at cl
  have G9 : ∀ n c, s8[n]? = some c → s9[n]? = some c := fun n c h => by
    have := (List.getElem?_eq_some_iff.mp h).1
    rw [hs9, List.getElem?_set_ne (by omega), List.getElem?_append_left this]
    exact h
  have b9 : Box s9 b := by obtain ⟨c, x, y, h⟩ := b8; exact ⟨c, x, y, G9 _ _ h⟩
  have tD : gTuple [.ref s6.length] s9 = .ok (.tup (dues LK d r q 0 css)) s9 := xtuple (seqO_ref (G9 _ _ d8))
  have sm : f__law_same 8 [.tup (dues LK d r q 0 css), .tup (dues LK d r q 0 css)] s9 = .ok (.bl true) s9 := same_refl 8 _ _ (.inr (.inr ⟨_, rfl, by rw [dues_len]; omega, dues_plain LK d r q css 0 hx3⟩))
  obtain ⟨l, s10, e10, hl1, hl2, x10⟩ := take_ok (n := 4) b9 (by decide) (by decide)
  have l10 : s10[s3.length]? = some (.lst (LK.map pr)) := by rw [x10.at hbL]; exact G9 _ _ l8
  have b10 := x10.box b9
  obtain ⟨M, hM1, hM2, hM3, eM⟩ := most_lock (b := b) (nC := s1.length) (nD := s6.length) (o2 := o2') (o4 := o4) (d := d) (r := r) (q := q) (l := l) l10 (by omega)
  have ls : ∀ ρ, mLenSet (mVar 3) (some (.ref b) :: some (.ref s1.length) :: o2' :: some (.ref s3.length) :: ρ) s10 = .ok (.int ((uniq (LK.map fun p => [p.1, p.2])).length : Nat)) s10 := fun ρ => by
    unfold mLenSet
    simp -implicitDefEqProofs only [xVs, xV0, bind_ok, seqO_ref l10, rows_pr, List.length_map, show LK.length < 64 by omega, if_true]
  have n10 : gLen [.ref s3.length] s10 = .ok (.int LK.length) s10 := by
    have := xlen (seqO_ref l10)
    rw [List.length_map] at this
    exact this
  have tL10 : gTuple [.ref s3.length] s10 = .ok (.tup (LK.map pr)) s10 := xtuple (seqO_ref l10)
  obtain ⟨bb, s11, e11, ⟨tt, ht⟩, hbb⟩ := is_spread_ok (st := s10) (looks := LK) (l := l) hl1 (by omega)
  have b11 : Box s11 b := by rw [ht]; exact (gr_app b10).box
  obtain ⟨b2, s12, e12, ⟨tt2, ht2'⟩, hb2⟩ := is_spread_ok (st := s11) (looks := []) (l := l) hl1 (by decide)
  have b12 : Box s12 b := by rw [ht2']; exact (gr_app b11).box
  have hb2t : b2 = true := hb2.mpr ⟨List.nodup_nil, fun o => hl1⟩
  subst hb2t
  obtain ⟨sp, hsp⟩ : ∃ sp, sp = (if ((uniq (LK.map fun p => [p.1, p.2])).length : Int) = LK.length then decide (M ≤ l) else false) := ⟨_, rfl⟩
  have key : bb = sp := by
    have h1 : bb = true ↔ sp = true := by
      rw [hbb, hsp]
      refine ⟨fun ⟨h1, h2⟩ => ?_, fun h => ?_⟩
      · rw [uniq_id (pairs_nd h1), List.length_map, if_pos rfl]
        refine decide_eq_true ?_
        rcases hM2 with z | ⟨p, _, z⟩
        · omega
        · rw [z]; exact h2 p.2
      · split at h
        · rename_i hu
          have hM := of_decide_eq_true h
          refine ⟨nd_of_pairs (uniq_nd_of (by rw [List.length_map]; omega)), fun o => ?_⟩
          by_cases z : at_ LK o = []
          · rw [z]; exact hl1
          · obtain ⟨p, hpm⟩ := List.exists_mem_of_ne_nil _ z
            have hm := List.mem_filter.mp hpm
            have ho : p.2 = o := of_decide_eq_true hm.2
            have := hM1 p hm.1
            rw [ho] at this
            omega
        · cases h
    exact Bool.eq_iff_iff.mpr h1
  subst key
  have sm2 : f__law_same 8 [.bl bb, .bl bb] s11 = .ok (.bl true) s11 := same_bl
  have sm3 : f__law_same 8 [.bl true, .bl true] s12 = .ok (.bl true) s12 := same_bl
  refine ⟨s12, ?_, b12⟩
  have spr : mAnd (mOp gEq (mLenSet (mVar 3)) (mCall gLen (mCons (mVar 3) mNil))) (mOp gLe (mVar 7) (mVar 6)) (RL b (some (.ref s1.length)) o2' (some (.ref s3.length)) o4 (some (.ref s6.length)) (some (.int l)) (some (.int M)) none d r q) s10 = .ok (.bl bb) s10 := by
    rw [hsp]
    by_cases z : ((uniq (LK.map fun p => [p.1, p.2])).length : Int) = LK.length
    · simp -implicitDefEqProofs only [xAnd, xB, xOp, ls, xCall, xCons', xVs, xV0, xNl, bind_ok, n10, xeq, decide_eq_true z, xAsB, if_true, xle, if_pos z]
    · simp -implicitDefEqProofs only [xAnd, xB, xOp, ls, xCall, xCons', xVs, xV0, xNl, bind_ok, n10, xeq, decide_eq_false z, xAsB, Bool.false_eq_true, if_false, if_neg z]
  have e12' : f_is_spread [.tup [], .int l] s11 = .ok (.bl true) s12 := e12
  show ended (m__law_lots [some (.ref b), none, none, none, none, none, none, none, none, none, none, none, none, none, none, none] st) = _
  unfold m__law_lots
  simp -implicitDefEqProofs only [xSeqS, xAs, xFn, xCons', xVs, xV0, xC, xNl, bind_ok, List.append_nil, List.length_cons, List.length_nil, if_true, e1, eb_ok, tup3, xTC, xTN, xName, Option.bind_some, st_some, at_nx, List.set_cons_succ, List.set_cons_zero, xBox, xLst, Nat.zero_le, xFor, xRng, xOp, Nat.reduceAdd, Nat.zero_add, e2, xadd, r1, e3, e5, r2, e6, xCall, n7, r3, e8, tC, tL, cl, tD, sm, xIfS, xNotT, xB, xAsB, Bool.not_true, Bool.false_eq_true, if_false, xNx, e10, eM, spr, xRet]
  simp -implicitDefEqProofs only [xAnd, xB, xFn, xCons', xCall, xVs, xV0, xNl, xC, bind_ok, tL10, e11, List.append_nil, List.length_cons, List.length_nil, Nat.reduceAdd, Nat.zero_add, if_true, sm2, xAsB, xTp, Nat.zero_le, e12', sm3, eb_ok, en_rt]
end Kq

namespace Kq
open PySem PySem.Spec Kp
theorem law_true : ∀ nums : List Int, nums.length ≤ 63 → ∃ s, Kp.runF 3 Kq.m_law [.fls (nums.map .int)] [] = .ok (.bl true) s := fun nums hl => by
  have loop := forGo_nx (t := tName 1) (body := (sSeq (sAs (tName 2) (mFn 2 f__law_box [] (mCons (mVar 0) (mCons (mVar 1) mNil))))
      (sIf (mOrT (mNotT (mB (mFn 1 f__law_counts [] (mCons (mVar 2) mNil)))) (mOrT (mNotT (mB (mFn 1 f__law_lots [] (mCons (mVar 2) mNil)))) (mOrT (mNotT (mB (mFn 1 f__law_worst [] (mCons (mVar 2) mNil)))) (mNotT (mB (mFn 1 f__law_far [] (mCons (mVar 2) mNil))))))) (sRt (mC (.bl false))) sNx))) D.int
    (fun _ ρ _ => ∃ o1 o2, ρ = [some (.fls (nums.map .int)), o1, o2]) (rngI 0 2) 0 [some (.fls (nums.map .int)), none, none] [] ⟨none, none, rfl⟩ fun j k ρ st hj ⟨o1, o2, hρ⟩ => by
      subst hρ
      have hm := mem_rng.mp (List.mem_of_getElem? hj)
      obtain ⟨c, x, e0⟩ := box_ok (st := st) (nums := nums) (k := k) (by omega) (by omega) hl
      have hb : Box (st ++ [.lst [.int c, .int x, .int 0]]) st.length := ⟨c, x, 0, by rw [List.getElem?_append_right (Nat.le_refl _), Nat.sub_self]; rfl⟩
      obtain ⟨s1, e1, x1⟩ := counts_ok hb
      obtain ⟨s2, e2, b2⟩ := lots_ok (x1.box hb)
      obtain ⟨s3, e3, b3⟩ := worst_ok b2
      obtain ⟨s4, e4, x4⟩ := far_ok b3
      refine ⟨[some (.fls (nums.map .int)), some (.int k), o2], st, [some (.fls (nums.map .int)), some (.int k), some (.ref st.length)], s4, rfl, ?_, _, _, rfl⟩
      simp -implicitDefEqProofs only [xSeqS, xAs, xFn, xCons', xVs, xV0, xNl, bind_ok, List.append_nil, List.length_cons, List.length_nil, Nat.reduceAdd, Nat.zero_add, if_true, e0, eb_ok, xName, st_some, at_nx, List.set_cons_succ, List.set_cons_zero, xIfS, xOrT, xNotT, xB, e1, e2, e3, e4, xAsB, Bool.not_true, Bool.false_eq_true, if_false, xNx]
  obtain ⟨ρ', st', l1, o1, o2, rfl⟩ := loop
  refine ⟨st', ?_⟩
  have r : rng1 [.int 2] [] = .ok ((rngI 0 2).map .int) [] := xrng1 (by decide) (by decide)
  show ended (m_law [some (.fls (nums.map .int)), none, none] []) = _
  unfold m_law
  simp -implicitDefEqProofs only [xSeqS, xFor, xRng, xCons', xC, xNl, bind_ok, r, eb_ok, l1, at_nx, xRet, en_rt]
end Kq

namespace Kq
open PySem PySem.Spec L2 Kp
open PyProof.Rows hiding St
theorem fin {w : World} {K : PySem.W.Frag} {mg : Str → Option Value} {h : Heap} {fa : Addr} (X : K.In h) (ns : h.Ns mainGlobals mg) (hfa : mg "law" = some (.ref fa)) (d__law_box : DefAt K "_law_box" s__law_box) (d__law_take : DefAt K "_law_take" s__law_take) (d__law_pick : DefAt K "_law_pick" s__law_pick) (d__law_numbers : DefAt K "_law_numbers" s__law_numbers) (d__law_same : DefAt K "_law_same" s__law_same) (d__law_has : DefAt K "_law_has" s__law_has) (d_kept : DefAt K "kept" s_kept) (d_pens_from : DefAt K "pens_from" s_pens_from) (d_counts_at : DefAt K "counts_at" s_counts_at) (d_first_own : DefAt K "first_own" s_first_own) (d_last_own : DefAt K "last_own" s_last_own) (d__law_counts : DefAt K "_law_counts" s__law_counts) (d__law_part : DefAt K "_law_part" s__law_part) (d_counted_long : DefAt K "counted_long" s_counted_long) (d_is_spread : DefAt K "is_spread" s_is_spread) (d__law_lots : DefAt K "_law_lots" s__law_lots) (d_worst_looks : DefAt K "worst_looks" s_worst_looks) (d_kept_copies : DefDAt K "kept_copies" s_kept_copies [(V.bl false)]) (d_most_counted : DefAt K "most_counted" s_most_counted) (d__law_worst : DefAt K "_law_worst" s__law_worst) (d__law_far : DefAt K "_law_far" s__law_far) (d_law : DefAt K "law" s_law) (g_abs : PySem.W.nsIn K mainGlobals "abs" = some none) (g_all : PySem.W.nsIn K mainGlobals "all" = some none) (g_any : PySem.W.nsIn K mainGlobals "any" = some none) (g_bool : PySem.W.nsIn K mainGlobals "bool" = some none) (g_enumerate : PySem.W.nsIn K mainGlobals "enumerate" = some none) (g_int : PySem.W.nsIn K mainGlobals "int" = some none) (g_isinstance : PySem.W.nsIn K mainGlobals "isinstance" = some none) (g_len : PySem.W.nsIn K mainGlobals "len" = some none) (g_list : PySem.W.nsIn K mainGlobals "list" = some none) (g_max : PySem.W.nsIn K mainGlobals "max" = some none) (g_min : PySem.W.nsIn K mainGlobals "min" = some none) (g_range : PySem.W.nsIn K mainGlobals "range" = some none) (g_set : PySem.W.nsIn K mainGlobals "set" = some none) (g_sorted : PySem.W.nsIn K mainGlobals "sorted" = some none) (g_str : PySem.W.nsIn K mainGlobals "str" = some none) (g_tuple : PySem.W.nsIn K mainGlobals "tuple" = some none) {tok_MOST_MAPS : Tok} (c_MOST_MAPS : PySem.W.nsIn K mainGlobals "MOST_MAPS" = some (some (.int 200 tok_MOST_MAPS))) (x_Refused : ExAt K PySem.Challenge.rw_keysapart_k56_whole_what_is_kept_too_lon.prog "Refused") (t_Refused : CatAt K "Refused" "Refused" true) (g_super : PySem.W.nsIn K mainGlobals "super" = some none) :
    ∃ fd : FuncData, (∀ (s : Shared) (u : Value), BindsTo s fd ⟨[u], []⟩ [(("script" : Str), u)]) ∧ ∀ base : Heap, K.In base → base.Ns mainGlobals mg → FnOk PySem.Challenge.rw_keysapart_k56_whole_what_is_kept_too_lon.prog w K mg base (L2N.CX PySem.Challenge.rw_keysapart_k56_whole_what_is_kept_too_lon.prog w) 11 fa fd ["script"] (spLaw K) :=
  law_of (l := PySem.Challenge.rw_keysapart_k56_whole_what_is_kept_too_lon) X ns hfa d_law sc_law (fun _ _ _ _ _ _ _ => rfl) (fun base Kb nb => ok_law (G := ⟨PySem.Challenge.rw_keysapart_k56_whole_what_is_kept_too_lon.prog, w, K, mg, base⟩) Kb nb (facts (G := ⟨PySem.Challenge.rw_keysapart_k56_whole_what_is_kept_too_lon.prog, w, K, mg, base⟩) Kb nb d__law_box d__law_take d__law_pick d__law_numbers d__law_same d__law_has d_kept d_pens_from d_counts_at d_first_own d_last_own d__law_counts d__law_part d_counted_long d_is_spread d__law_lots d_worst_looks d_kept_copies d_most_counted d__law_worst d__law_far d_law g_abs g_all g_any g_bool g_enumerate g_int g_isinstance g_len g_list g_max g_min g_range g_set g_sorted g_str g_tuple c_MOST_MAPS x_Refused t_Refused g_super)) law_true
end Kq
open PySem PySem.W PyProof.Rows
set_option maxRecDepth 100000 in
set_option maxHeartbeats 0 in
theorem PySem.Challenge.cw_keysapart_k56_whole_what_is_kept_too_lon_holds : PySem.Challenge.rw_keysapart_k56_whole_what_is_kept_too_lon.Holds := by
  w_on; o_law; k_head; (case hw => w_witness2)
  k_fill
  refine L2.walk_of (l := PySem.Challenge.rw_keysapart_k56_whole_what_is_kept_too_lon) (n := 63) (k := 11) (x := "script") (CX := fun w => L2N.CX PySem.Challenge.rw_keysapart_k56_whole_what_is_kept_too_lon.prog w) (sp := fun w => Kp.spLaw _) rfl (by decide) rfl ⟨rfl, by decide, by decide⟩ (fun w h Y => PySem.W.kIn_of Y) ?F (fun w H a ns hl ho hS => ⟨a, ns, rfl, ho, hS, hl, fun _ => rfl⟩) ?NX
  case NX =>
    intro w H s e s' h
    obtain ⟨_, _, _, _, _, _, _, _, _, _, _, _, z⟩ := h
    exact z
  case F =>
    intro w mg fa h KX G hmg
    refine' Kq.fin KX G hmg (Kp.DefAt.of ?a1 ?l1 ?c1 ?k1) (Kp.DefAt.of ?a2 ?l2 ?c2 ?k2) (Kp.DefAt.of ?a3 ?l3 ?c3 ?k3) (Kp.DefAt.of ?a4 ?l4 ?c4 ?k4) (Kp.DefAt.of ?a5 ?l5 ?c5 ?k5) (Kp.DefAt.of ?a6 ?l6 ?c6 ?k6) (Kp.DefAt.of ?a7 ?l7 ?c7 ?k7) (Kp.DefAt.of ?a8 ?l8 ?c8 ?k8) (Kp.DefAt.of ?a9 ?l9 ?c9 ?k9) (Kp.DefAt.of ?a10 ?l10 ?c10 ?k10) (Kp.DefAt.of ?a11 ?l11 ?c11 ?k11) (Kp.DefAt.of ?a12 ?l12 ?c12 ?k12) (Kp.DefAt.of ?a13 ?l13 ?c13 ?k13) (Kp.DefAt.of ?a14 ?l14 ?c14 ?k14) (Kp.DefAt.of ?a15 ?l15 ?c15 ?k15) (Kp.DefAt.of ?a16 ?l16 ?c16 ?k16) (Kp.DefAt.of ?a17 ?l17 ?c17 ?k17) (Kp.DefDAt.of (by simp) ?r18 ?a18 ?l18 ?m18 ?c18 ?k18) (Kp.DefAt.of ?a19 ?l19 ?c19 ?k19) (Kp.DefAt.of ?a20 ?l20 ?c20 ?k20) (Kp.DefAt.of ?a21 ?l21 ?c21 ?k21) (Kp.DefAt.of ?a22 ?l22 ?c22 ?k22) ?g23 ?g24 ?g25 ?g26 ?g27 ?g28 ?g29 ?g30 ?g31 ?g32 ?g33 ?g34 ?g35 ?g36 ?g37 ?g38 ?g39 (Kp.ExAt.of ?a_40 ?kp_40 ?hi_40 ?l1_40 ?c1_40 ?l2_40 ?v2_40 ?fl_40 ?l3_40 ?se_40 ?ini_40 ?isF_40 ?over_40 ?st_40 ?tk_40 ?hd_40 ?sup_40 ?cls_40 ?sub_40 ?own_40 ?opq_40 ?noS_40 ?b1_40 ?b2_40 ?xf_40 ?at_40) (Kp.CatAt.of ?a41 ?b41 ?e41) ?gs
    (case a1 => k_is)
    (case l1 => k_is)
    (case c1 => k_is)
    (case k1 => k_is)
    (case a2 => k_is)
    (case l2 => k_is)
    (case c2 => k_is)
    (case k2 => k_is)
    (case a3 => k_is)
    (case l3 => k_is)
    (case c3 => k_is)
    (case k3 => k_is)
    (case a4 => k_is)
    (case l4 => k_is)
    (case c4 => k_is)
    (case k4 => k_is)
    (case a5 => k_is)
    (case l5 => k_is)
    (case c5 => k_is)
    (case k5 => k_is)
    (case a6 => k_is)
    (case l6 => k_is)
    (case c6 => k_is)
    (case k6 => k_is)
    (case a7 => k_is)
    (case l7 => k_is)
    (case c7 => k_is)
    (case k7 => k_is)
    (case a8 => k_is)
    (case l8 => k_is)
    (case c8 => k_is)
    (case k8 => k_is)
    (case a9 => k_is)
    (case l9 => k_is)
    (case c9 => k_is)
    (case k9 => k_is)
    (case a10 => k_is)
    (case l10 => k_is)
    (case c10 => k_is)
    (case k10 => k_is)
    (case a11 => k_is)
    (case l11 => k_is)
    (case c11 => k_is)
    (case k11 => k_is)
    (case a12 => k_is)
    (case l12 => k_is)
    (case c12 => k_is)
    (case k12 => k_is)
    (case a13 => k_is)
    (case l13 => k_is)
    (case c13 => k_is)
    (case k13 => k_is)
    (case a14 => k_is)
    (case l14 => k_is)
    (case c14 => k_is)
    (case k14 => k_is)
    (case a15 => k_is)
    (case l15 => k_is)
    (case c15 => k_is)
    (case k15 => k_is)
    (case a16 => k_is)
    (case l16 => k_is)
    (case c16 => k_is)
    (case k16 => k_is)
    (case a17 => k_is)
    (case l17 => k_is)
    (case c17 => k_is)
    (case k17 => k_is)
    (case a18 => k_is)
    (case l18 => k_is)
    (case m18 => k_is)
    (case c18 => k_is)
    (case k18 => k_is)
    (case r18 => exact .cons rfl (.nil))
    (case a19 => k_is)
    (case l19 => k_is)
    (case c19 => k_is)
    (case k19 => k_is)
    (case a20 => k_is)
    (case l20 => k_is)
    (case c20 => k_is)
    (case k20 => k_is)
    (case a21 => k_is)
    (case l21 => k_is)
    (case c21 => k_is)
    (case k21 => k_is)
    (case a22 => k_is)
    (case l22 => k_is)
    (case c22 => k_is)
    (case k22 => k_is)
    (case g23 => k_is)
    (case g24 => k_is)
    (case g25 => k_is)
    (case g26 => k_is)
    (case g27 => k_is)
    (case g28 => k_is)
    (case g29 => k_is)
    (case g30 => k_is)
    (case g31 => k_is)
    (case g32 => k_is)
    (case g33 => k_is)
    (case g34 => k_is)
    (case g35 => k_is)
    (case g36 => k_is)
    (case g37 => k_is)
    (case g38 => k_is)
    (case g39 => k_is)
    (case a_40 => k_is)
    (case kp_40 => k_is)
    (case hi_40 => k_is)
    (case l1_40 => k_is)
    (case c1_40 => k_is)
    (case l2_40 => k_is)
    (case v2_40 => rfl)
    (case fl_40 => decide +kernel)
    (case l3_40 => k_is)
    (case se_40 => intro env; rfl)
    (case ini_40 => kernel_rfl)
    (case isF_40 => k_is)
    (case over_40 => kernel_rfl)
    (case st_40 => k_is)
    (case tk_40 => k_is)
    (case hd_40 => k_is)
    (case sup_40 => kernel_rfl)
    (case cls_40 => kernel_rfl)
    (case sub_40 => k_is)
    (case own_40 => k_is)
    (case opq_40 => k_is)
    (case noS_40 => rfl)
    (case b1_40 => k_is)
    (case b2_40 => k_is)
    (case xf_40 => kernel_rfl)
    (case at_40 => k_is)
    (case a41 => k_is)
    (case b41 => k_is)
    (case e41 => kernel_rfl)
    (case gs => k_is)

